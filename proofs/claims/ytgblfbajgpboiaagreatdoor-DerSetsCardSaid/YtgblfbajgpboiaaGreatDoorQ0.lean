/- What the last text leans on, part 1 of 7: merged out of smaller texts. No condition. -/
import Derived.Tactics2
import Derived.Laws.Append
import Derived.Laws.Slices
import Derived.Laws.Build
import Derived.Laws.Pointers
import Derived.Laws.Small
import Derived.Laws.StructEq
import Derived.WalkSpells
import Derived.Laws.BytesArg
import Derived.Laws.IdiomCopy
import Derived.Lib.ConvBytes
import Derived.IntWalk
import Derived.LoopN
open Nat renaming le_refl -> AK,add -> AP,beq_eq -> AU,ble_eq -> Ac,ble -> Ag,beq -> Ak,lt_or_ge -> Av,zero_add -> BA,le_trans -> Bc,eq_of_beq_eq_true -> Bo,blt_eq -> Bu,blt -> B2,mul_one -> B8,mod_eq_of_lt -> CY,zero_le -> DZ,add_assoc -> D3,mul_le_mul_right -> EL,le_succ -> EM,min_eq_left -> Em,min -> Ex,mul_div_cancel -> Gf,eq_of_testBit_eq -> HI,sub_self -> JG,add_zero -> JH,mul -> Ma,mod_lt -> QI,eq_zero_or_pos -> QJ,add_eq -> QK,testBit_mod_two_pow -> QO,testBit_or -> Tt,sub_zero -> Tu,add_mul -> fN,add_lt_add_iff_right -> AOP
open Bool renaming and_eq_true -> AG,or_eq_false_iff -> Bd,or_eq_true -> Bk,false_eq_true -> DE,false_or -> Dc,eq_false_iff -> Dw,eq_iff_iff -> Fg,not_eq_true -> Mb
open List renaming getElem?_eq_getElem -> AM,length_cons -> AN,length_append -> AS,replicate -> As,getElem?_map -> Aw,mem_cons -> Ax,getElem?_eq_none -> BF,getElem?_append_right -> BR,eq_nil_of_length_eq_zero -> BW,length_take -> BY,getElem?_cons_succ -> Bb,getElem?_drop -> Bm,map_cons -> B3,length_map -> CD,getElem?_append_left -> CR,mem_of_getElem? -> DA,drop_eq_getElem_cons -> DB,range -> Da,take_of_length_le -> Dj,mem_append -> EA,nil_append -> Ff,cons_append -> GG,getElem?_take -> Gg,map_nil -> HJ,ext_getElem? -> HL,all_cons -> Jf,drop_take -> Ln,replicate_succ -> NJ,mapM_cons -> Tw,getElem?_range -> om,flatten_cons -> AJd
open Option renaming some -> AQ,bind_eq_some_iff -> AV,map_eq_some_iff -> Aa,map_some -> CC,bind_some -> C0,map_none -> oX
open Array renaming getElem?_setIfInBounds -> A2,getElem?_eq_none -> CH,size_setIfInBounds -> D4,getD_eq_getD_getElem? -> EO,length_toList -> Eg,ext' -> Gh,replicate -> HB,getElem?_append_left -> Lp,mapM_eq_mapM_toList -> Md,getElem?_toList -> WX,map -> wJ,getElem?_eq_some_iff -> ABg
open BitVec renaming ofInt -> BG
namespace Go.Og
structure BS where
 len:Nat
 val:Nat
 deriving DecidableEq,Inhabited
def BS.get (s:BS) (i:Nat):Nat:=Nat.mod (Nat.shiftRight s.val (Ma 8 i)) 256
def BS.toList (s:BS):List UInt8:=(Da s.len).map fun i=>UInt8.ofNat (s.get i)
def BS.low (s:BS):Nat:=Nat.mod s.val (Nat.pow 2 (Ma 8 s.len))
def BS.beq (a b:BS):Bool:=Ak a.len b.len&&Ak a.low b.low
def BS.cat (a b:BS):BS:=⟨AP a.len b.len,Nat.lor a.low (Nat.shiftLeft b.val (Ma 8 a.len))⟩
def BS.sub (s:BS) (lo hi:Nat):BS:=⟨Nat.sub hi lo,Nat.mod (Nat.shiftRight s.val (Ma 8 lo)) (Nat.pow 2 (Ma 8 (Nat.sub hi lo)))⟩
def BS.ofList:List UInt8->BS
 | []=>⟨0,0⟩
 | c::l=>⟨Nat.succ (BS.ofList l).len,AP c.toNat (Ma 256 (BS.ofList l).val)⟩
theorem BS.get_lt (s:BS) (i:Nat):s.get i<256:=QI _ (by decide)
theorem BS.length_toList (s:BS):s.toList.length=s.len:=by simp[BS.toList]
theorem BS.getElem?_toList (s:BS) (i:Nat):s.toList[i]? = if i<s.len then some (UInt8.ofNat (s.get i))else none:=by
 simp only[BS.toList,Aw]
 by_cases h:i<s.len
 ·rw[if_pos h,om h];rfl
 ·rw[if_neg h,BF (by simpa using h)];rfl
theorem BS.ofNat_inj {a b:Nat} (ha:a<256) (hb:b<256) (h:UInt8.ofNat a=UInt8.ofNat b):a=b:=by
 have:=congrArg UInt8.toNat h
 simp only[UInt8.toNat_ofNat']at this
 omega
theorem BS.testBit_get (s:BS) (i j:Nat):(s.get i).testBit j=(decide (j<8)&&s.val.testBit (8*i+j)):=by
 show Nat.testBit ((s.val >>> (8*i)) % (2 ^ 8)) j=_
 rw[QO,Nat.testBit_shiftRight]
theorem BS.testBit_low (s:BS) (j:Nat):s.low.testBit j=(decide (j<8*s.len)&&s.val.testBit j):=by
 show Nat.testBit (s.val % (2 ^ (8*s.len))) j=_
 rw[QO]
theorem BS.ext_get {a b:BS} (hl:a.len=b.len) (h:∀i,i<a.len->a.get i=b.get i):a.toList=b.toList:=by
 apply HL
 intro i
 rw[BS.getElem?_toList,BS.getElem?_toList,hl]
 by_cases hi:i<b.len
 ·rw[if_pos hi,if_pos hi,h i (by omega)]
 ·rw[if_neg hi,if_neg hi]
theorem BS.get_eq {a b:BS} (h:a.toList=b.toList):a.len=b.len/\∀i,i<a.len->a.get i=b.get i:=by
 have hl:a.len=b.len:=by rw[<-BS.length_toList,h,BS.length_toList]
 refine⟨hl,fun i hi=>?_⟩
 have:=congrArg (·[i]?) h
 simp only[BS.getElem?_toList]at this
 rw[if_pos hi,if_pos (by omega)]at this
 exact BS.ofNat_inj (a.get_lt i) (b.get_lt i) (AQ.inj this)
theorem BS.low_eq {a b:BS} (hl:a.len=b.len):a.low=b.low↔∀i,i<a.len->a.get i=b.get i:=by
 constructor
 ·intro h i hi
  apply HI
  intro j
  rw[BS.testBit_get,BS.testBit_get]
  by_cases hj:j<8
  ·have:=congrArg (fun n=>n.testBit (8*i+j)) h
   simp only[BS.testBit_low]at this
   have h1:(8*i+j<8*a.len):=by omega
   have h2:(8*i+j<8*b.len):=by omega
   simpa[hj,h1,h2]using this
  ·simp[hj]
 ·intro h
  apply HI
  intro j
  rw[BS.testBit_low,BS.testBit_low,<-hl]
  by_cases hj:j<8*a.len
  ·have:=congrArg (fun n=>n.testBit (j % 8)) (h (j / 8) (by omega))
   simp only[BS.testBit_get]at this
   have h1:j % 8<8:=by omega
   rw[Nat.div_add_mod]at this
   simpa[h1,hj]using this
  ·simp[hj]
theorem BS.beq_iff {a b:BS}:a.beq b=true↔a.toList=b.toList:=by
 simp only[BS.beq,AG,AU]
 constructor
 ·rintro⟨hl,h⟩;exact BS.ext_get hl ((BS.low_eq hl).1 h)
 ·intro h
  obtain⟨hl,hg⟩:=BS.get_eq h
  exact⟨hl,(BS.low_eq hl).2 hg⟩
theorem BS.beq_eq (a b:BS):a.beq b=decide (a.toList=b.toList):=by
 by_cases h:a.toList=b.toList
 ·rw[BS.beq_iff.2 h];simp[h]
 ·rw[decide_eq_false h,Dw];exact fun hh=>h (BS.beq_iff.1 hh)
theorem BS.get_cat_left {a b:BS} {i:Nat} (h:i<a.len):(a.cat b).get i=a.get i:=by
 apply HI
 intro j
 rw[BS.testBit_get,BS.testBit_get]
 by_cases hj:j<8
 ·show (decide (j<8)&&Nat.testBit (a.low ||| b.val <<< (8*a.len)) (8*i+j))=_
  rw[Tt,BS.testBit_low,Nat.testBit_shiftLeft]
  have h1:8*i+j<8*a.len:=by omega
  have h2:¬(8*a.len<=8*i+j):=by omega
  simp[h1,h2]
 ·simp[hj]
theorem BS.get_cat_right {a b:BS} {i:Nat} (h:a.len<=i):(a.cat b).get i=b.get (i-a.len):=by
 apply HI
 intro j
 rw[BS.testBit_get,BS.testBit_get]
 by_cases hj:j<8
 ·show (decide (j<8)&&Nat.testBit (a.low ||| b.val <<< (8*a.len)) (8*i+j))=_
  rw[Tt,BS.testBit_low,Nat.testBit_shiftLeft]
  have h1:¬(8*i+j<8*a.len):=by omega
  have h2:8*i+j ≥ 8*a.len:=by omega
  have h3:8*i+j-8*a.len=8*(i-a.len)+j:=by omega
  simp[h1,h2,h3]
 ·simp[hj]
theorem BS.toList_cat (a b:BS):(a.cat b).toList=a.toList++b.toList:=by
 apply HL
 intro i
 rw[List.getElem?_append,BS.length_toList,BS.getElem?_toList,BS.getElem?_toList,BS.getElem?_toList]
 have hl:(a.cat b).len=a.len+b.len:=rfl
 rw[hl]
 by_cases h:i<a.len
 ·rw[if_pos h,if_pos (by omega),if_pos h,BS.get_cat_left h]
 ·rw[if_neg h]
  by_cases h2:i<a.len+b.len
  ·rw[if_pos h2,if_pos (by omega),BS.get_cat_right (by omega)]
  ·rw[if_neg h2,if_neg (by omega)]
theorem BS.get_sub {s:BS} {lo hi i:Nat} (h:i<hi-lo):(s.sub lo hi).get i=s.get (lo+i):=by
 apply HI
 intro j
 rw[BS.testBit_get,BS.testBit_get]
 by_cases hj:j<8
 ·show (decide (j<8)&&Nat.testBit ((s.val >>> (8*lo)) % (2 ^ (8*(hi-lo)))) (8*i+j))=_
  rw[QO,Nat.testBit_shiftRight]
  have h1:8*i+j<8*(hi-lo):=by omega
  have h2:8*lo+(8*i+j)=8*(lo+i)+j:=by omega
  simp[h1,h2]
 ·simp[hj]
theorem BS.toList_sub {s:BS} {lo hi:Nat} (h:hi<=s.len):(s.sub lo hi).toList=(s.toList.drop lo).take (hi-lo):=by
 apply HL
 intro i
 rw[Gg,Bm,BS.getElem?_toList,BS.getElem?_toList]
 have hl:(s.sub lo hi).len=hi-lo:=rfl
 rw[hl]
 by_cases h1:i<hi-lo
 ·rw[if_pos h1,if_pos h1,if_pos (by omega),BS.get_sub h1]
 ·rw[if_neg h1,if_neg h1]
theorem BS.len_ofList:∀l:List UInt8,(BS.ofList l).len=l.length
 | []=>rfl
 | _::l=>by simp[BS.ofList,BS.len_ofList l]
theorem BS.get_ofList:∀(l:List UInt8) (i:Nat) (c:UInt8),l[i]? = some c->(BS.ofList l).get i=c.toNat
 | [],i,c,h=>by simp at h
 | d::l,0,c,h=>by
  simp at h;subst h
  show ((d.toNat+256*(BS.ofList l).val) >>> (8*0)) % 256=_
  have:=d.toNat_lt
  rw[Nat.mul_zero,Nat.shiftRight_zero]
  omega
 | d::l,i+1,c,h=>by
  simp at h
  rw[<-BS.get_ofList l i c h]
  show ((d.toNat+256*(BS.ofList l).val) >>> (8*(i+1))) % 256=((BS.ofList l).val >>> (8*i)) % 256
  have hd:=d.toNat_lt
  rw[Nat.mul_succ,Nat.add_comm (8*i) 8,Nat.shiftRight_add]
  have:(d.toNat+256*(BS.ofList l).val) >>> 8=(BS.ofList l).val:=by
   rw[Nat.shiftRight_eq_div_pow];omega
  rw[this]
theorem BS.toList_ofList (l:List UInt8):(BS.ofList l).toList=l:=by
 apply HL
 intro i
 rw[BS.getElem?_toList,BS.len_ofList]
 by_cases h:i<l.length
 ·rw[if_pos h]
  have h2:l[i]? = some l[i]:=AM h
  rw[BS.get_ofList l i _ h2,h2]
  simp
 ·rw[if_neg h,BF (by omega)]
structure BI where
 blk:Nat
 shift:Nat
 endc:Nat
inductive Ri where
 | ex (c:Nat)
 | op (esz:Nat)
 deriving DecidableEq,Inhabited
abbrev Cz:=Nat->Option BI
inductive V where
 | dead
 | bool (b:Bool)
 | int (k:IntKind) (n:Int)
 | str (s:BS)
 | nilp
 | ptr (b off:Nat)
 | nils
 | sl (b off len:Nat) (cap:Ri)
 | sle (b off k esz:Nat)
 | nilm
 | mp (b:Nat)
 | fn (f:FuncId) (first captured:List V)
 | nilf
 | ifc (t:TypeId) (v:V)
 | nili
 | agg (l:List V)
 | tup (l:List V)
 deriving Inhabited
def BI.cap (i:BI) (esz off:Nat):Nat:=(i.endc-off) / esz
mutual
def Ao (R:Cz):V->Option Value
 | .dead=>none
 | .bool b=>some (.bool b)
 | .int k n=>some (.int k n)
 | .str l=>some (.string ⟨l.toList.toArray⟩)
 | .nilp=>some (.pointer none)
 | .ptr b off=>(R b).map fun i => .pointer (some ⟨i.blk,i.shift+off,none⟩)
 | .nils=>some (.slice none 0 0)
 | .sl b off len (.ex c)=>(R b).map fun i => .slice (some ⟨i.blk,i.shift+off,none⟩) len c
 | .sl b off len (.op e)=>(R b).bind fun i=>if len<=i.cap e off then some (.slice (some ⟨i.blk,i.shift+off,none⟩) len (i.cap e off))else none
 | .sle b off k e=>(R b).bind fun i=>if k<=i.cap e off then some (.slice (some (if i.cap e off=k then⟨i.blk,i.shift+off,none⟩else(⟨i.blk,i.shift+off,none⟩:Addr).add (k*e))) 0 (i.cap e off-k))else none
 | .nilm=>some (.map none)
 | .mp b=>(R b).map fun i => .map (some i.blk)
 | .fn f a c=>match A1 R a,A1 R c with
  | some x,some y=>some (.func (.func f) x.toArray y.toArray)
  | _,_=>none
 | .nilf=>some .nilFunc
 | .ifc t v=>match Ao R v with
  | some x=>some (.iface t x)
  | none=>none
 | .nili=>some .nilIface
 | .agg l=>match A1 R l with
  | some x=>some (.agg x.toArray)
  | none=>none
 | .tup l=>match A1 R l with
  | some x=>some (.tuple x.toArray)
  | none=>none
def A1 (R:Cz):List V->Option (List Value)
 | []=>some []
 | v::l=>match Ao R v,A1 R l with
  | some x,some y=>some (x::y)
  | _,_=>none
end
def Le (R R':Cz):Prop:=∀b i,R b=some i->R' b=some i
theorem Le.refl (R:Cz):Le R R:=fun _ _ h=>h
theorem Le.trans {R S T:Cz} (h:Le R S) (k:Le S T):Le R T:=fun b i x=>k b i (h b i x)
mutual
theorem Cr {R R':Cz} (h:Le R R'):∀(v:V) (x:Value),Ao R v=some x->Ao R' v=some x
 | .dead,x,e=>by simp[Ao]at e
 | .bool b,x,e=>by simpa[Ao]using e
 | .int k n,x,e=>by simpa[Ao]using e
 | .str l,x,e=>by simpa[Ao]using e
 | .nilp,x,e=>by simpa[Ao]using e
 | .ptr b off,x,e=>by
  simp only[Ao,Aa]at e ⊢
  obtain⟨i,hi,rfl⟩:=e;exact⟨i,h b i hi,rfl⟩
 | .nils,x,e=>by simpa[Ao]using e
 | .sl b off len (.ex c),x,e=>by
  simp only[Ao,Aa]at e ⊢
  obtain⟨i,hi,rfl⟩:=e;exact⟨i,h b i hi,rfl⟩
 | .sl b off len (.op _),x,e=>by
  simp only[Ao,AV]at e ⊢
  obtain⟨i,hi,e⟩:=e;exact⟨i,h b i hi,e⟩
 | .sle b off k _,x,e=>by
  simp only[Ao,AV]at e ⊢
  obtain⟨i,hi,e⟩:=e;exact⟨i,h b i hi,e⟩
 | .nilm,x,e=>by simpa[Ao]using e
 | .mp b,x,e=>by
  simp only[Ao,Aa]at e ⊢
  obtain⟨i,hi,rfl⟩:=e;exact⟨i,h b i hi,rfl⟩
 | .fn f a c,x,e=>by
  simp only[Ao]at e ⊢
  cases ha:A1 R a<;>simp only[ha]at e
  ·cases e
  ·cases hc:A1 R c<;>simp only[hc]at e
   ·cases e
   ·rw[Ee h a _ ha,Ee h c _ hc];exact e
 | .nilf,x,e=>by simpa[Ao]using e
 | .ifc t v,x,e=>by
  simp only[Ao]at e ⊢
  cases hv:Ao R v<;>simp only[hv]at e
  ·cases e
  ·rw[Cr h v _ hv];exact e
 | .nili,x,e=>by simpa[Ao]using e
 | .agg l,x,e=>by
  simp only[Ao]at e ⊢
  cases hl:A1 R l<;>simp only[hl]at e
  ·cases e
  ·rw[Ee h l _ hl];exact e
 | .tup l,x,e=>by
  simp only[Ao]at e ⊢
  cases hl:A1 R l<;>simp only[hl]at e
  ·cases e
  ·rw[Ee h l _ hl];exact e
theorem Ee {R R':Cz} (h:Le R R'):∀(l:List V) (x:List Value),A1 R l=some x->A1 R' l=some x
 | [],x,e=>by simpa[A1]using e
 | v::l,x,e=>by
  simp only[A1]at e ⊢
  cases hv:Ao R v<;>simp only[hv]at e
  ·cases e
  ·cases hl:A1 R l<;>simp only[hl]at e
   ·cases e
   ·rw[Cr h v _ hv,Ee h l _ hl];exact e
end
theorem Bh {R:Cz}:∀{l:List V} {x:List Value},A1 R l=some x->x.length=l.length
 | [],x,e=>by simp only[A1,AQ.injEq]at e;subst e;rfl
 | v::l,x,e=>by
  simp only[A1]at e
  cases hv:Ao R v<;>simp only[hv]at e
  ·cases e
  ·cases hl:A1 R l<;>simp only[hl]at e
   ·cases e
   ·cases e;simp[Bh hl]
theorem Be {R:Cz} {v:V} {l:List V} {x:List Value}:A1 R (v::l)=some x↔∃a b,Ao R v=some a/\A1 R l=some b/\x=a::b:=by
 simp only[A1]
 cases hv:Ao R v<;>cases hl:A1 R l<;>simp[eq_comm]
theorem EU {R:Cz}:∀{l:List V} {x:List Value},A1 R l=some x->∀{k:Nat} {v:V},l[k]? = some v->∃a,Ao R v=some a/\x[k]? = some a
 | [],x,e,k,v,h=>by simp at h
 | v::l,x,e,k,u,h=>by
  obtain⟨a,b,ha,hb,rfl⟩:=Be.1 e
  cases k with
  | zero=>simp at h;subst h;exact⟨a,ha,by simp⟩
  | succ k=>simp at h;obtain⟨c,hc,hk⟩:=EU hb h;exact⟨c,hc,by simpa using hk⟩
theorem MM {R:Cz}:∀{l:List V} {x:List Value},x.length=l.length->(∀(k:Nat) (v:V),l[k]? = some v->∃a,Ao R v=some a/\x[k]? = some a)->A1 R l=some x
 | [],x,e,h=>by simp at e;subst e;rfl
 | v::l,[],e,h=>by simp at e
 | v::l,a::x,e,h=>by
  obtain⟨b,hb,hx⟩:=h 0 v (by simp)
  simp at hx;subst hx
  refine Be.2 ⟨a,x,hb,MM (by simpa using e) (fun k u hu=>?_),rfl⟩
  obtain⟨c,hc,hk⟩:=h (k+1) u (by simpa using hu)
  exact⟨c,hc,by simpa using hk⟩
theorem HE {R:Cz} {l m:List V} {x y:List Value} (h:A1 R l=some x) (k:A1 R m=some y):A1 R (l++m)=some (x++y):=by
 induction l generalizing x with
 | nil=>simp only[A1,AQ.injEq]at h;subst h;simpa using k
 | cons v l ih=>obtain⟨a,b,ha,hb,rfl⟩:=Be.1 h;exact Be.2 ⟨a,b++y,ha,ih hb,rfl⟩
theorem PE {R:Cz} {l:List V} {x:List Value} (h:A1 R l=some x) (n:Nat):A1 R (l.take n)=some (x.take n):=by
 induction l generalizing x n with
 | nil=>simp only[A1,AQ.injEq]at h;subst h;simp[A1]
 | cons v l ih=>
  obtain⟨a,b,ha,hb,rfl⟩:=Be.1 h
  cases n with
  | zero=>simp[A1]
  | succ n=>exact Be.2 ⟨a,b.take n,ha,ih hb n,rfl⟩
theorem W2 {R:Cz} {l:List V} {x:List Value} (h:A1 R l=some x) (n:Nat):A1 R (l.drop n)=some (x.drop n):=by
 induction l generalizing x n with
 | nil=>simp only[A1,AQ.injEq]at h;subst h;simp[A1]
 | cons v l ih=>
  obtain⟨a,b,ha,hb,rfl⟩:=Be.1 h
  cases n with
  | zero=>simpa using h
  | succ n=>simpa using ih hb n
def V.one:V->Bool
 | .agg _ | .tup _ | .dead=>false
 | _=>true
def V.cells:V->List V
 | .agg l=>l
 | v=>[v]
theorem Hp {R:Cz} {l:List V} {a:Value} (h:Ao R (.agg l)=some a):∃x,A1 R l=some x/\a = .agg x.toArray:=by
 simp only[Ao]at h
 cases hl:A1 R l<;>simp only[hl]at h
 ·cases h
 ·cases h;exact⟨_,rfl,rfl⟩
theorem VI {R:Cz} {l:List V} {a:Value} (h:Ao R (.tup l)=some a):∃x,A1 R l=some x/\a = .tuple x.toArray:=by
 simp only[Ao]at h
 cases hl:A1 R l<;>simp only[hl]at h
 ·cases h
 ·cases h;exact⟨_,rfl,rfl⟩
theorem Dn {R:Cz} {l:List V} {x:List Value} (h:A1 R l=some x):Ao R (.agg l)=some (.agg x.toArray):=by simp only[Ao,h]
theorem J3 {R:Cz} {l:List V} {x:List Value} (h:A1 R l=some x):Ao R (.tup l)=some (.tuple x.toArray):=by simp only[Ao,h]
theorem VJ {R:Cz} {v:V} {a:Value} (hv:v.one=true) (h:Ao R v=some a):a.cells=#[a]/\a.oneCell'=true:=by
 cases v with
 | dead=>cases hv
 | agg l=>cases hv
 | tup l=>cases hv
 | bool b=>cases h;exact⟨rfl,rfl⟩
 | int k n=>cases h;exact⟨rfl,rfl⟩
 | str l=>cases h;exact⟨rfl,rfl⟩
 | nilp=>cases h;exact⟨rfl,rfl⟩
 | nils=>cases h;exact⟨rfl,rfl⟩
 | nilm=>cases h;exact⟨rfl,rfl⟩
 | nilf=>cases h;exact⟨rfl,rfl⟩
 | nili=>cases h;exact⟨rfl,rfl⟩
 | ptr b off=>
  simp only[Ao,Aa]at h
  obtain⟨i,_,rfl⟩:=h;exact⟨rfl,rfl⟩
 | mp b=>
  simp only[Ao,Aa]at h
  obtain⟨i,_,rfl⟩:=h;exact⟨rfl,rfl⟩
 | sl b off len cap=>
  cases cap with
  | ex c=>
   simp only[Ao,Aa]at h
   obtain⟨i,_,rfl⟩:=h;exact⟨rfl,rfl⟩
  | op e=>
   simp only[Ao,AV]at h
   obtain⟨i,_,h⟩:=h
   by_cases hc:len<=i.cap e off
   ·rw[if_pos hc]at h;cases h;exact⟨rfl,rfl⟩
   ·rw[if_neg hc]at h;cases h
 | sle b off k e=>
  simp only[Ao,AV]at h
  obtain⟨i,_,h⟩:=h
  by_cases hc:k<=i.cap e off
  ·rw[if_pos hc]at h;cases h;exact⟨rfl,rfl⟩
  ·rw[if_neg hc]at h;cases h
 | ifc t v=>
  simp only[Ao]at h
  cases hx:Ao R v<;>simp only[hx]at h
  ·cases h
  ·cases h;exact⟨rfl,rfl⟩
 | fn f x y=>
  simp only[Ao]at h
  cases hx:A1 R x<;>simp only[hx]at h
  ·cases h
  ·cases hy:A1 R y<;>simp only[hy]at h
   ·cases h
   ·cases h;exact⟨rfl,rfl⟩
theorem Ho {R:Cz} {v:V} {a:Value} (h:Ao R v=some a):A1 R v.cells=some a.cells.toList:=by
 cases v with
 | dead=>cases h
 | agg l=>obtain⟨x,hx,rfl⟩:=Hp h;simpa[V.cells,Value.cells]using hx
 | tup l=>
  obtain⟨x,hx,rfl⟩:=VI h
  exact Be.2 ⟨_,[],h,rfl,rfl⟩
 | _=>
  rw[(VJ rfl h).1]
  exact Be.2 ⟨a,[],h,rfl,rfl⟩
inductive GM where
 | cells (l:List V)
 | map (l:List (V × V))
 | siter (s:List UInt8) (pos:Nat)
 | unit (t:TypeId)
 deriving Inhabited
def look {α:Type}:List (Nat × α)->Nat->Option α
 | [],_=>none
 | (k,b)::l,id=>if Ak k id then some b else look l id
def Ke {α:Type}:List (Nat × α)->Nat->α->List (Nat × α)
 | [],_,_=>[]
 | (k,b)::l,id,c=>if Ak k id then(k,c)::l else(k,b)::Ke l id c
def drop {α:Type}:List (Nat × α)->Nat->List (Nat × α)
 | [],_=>[]
 | (k,b)::l,id=>if Ak k id then drop l id else(k,b)::drop l id
theorem HW {α:Type} (l:List (Nat × α)) (id id':Nat) (c:α):look (Ke l id c) id'=if id=id' then(look l id').map (fun _=>c)else look l id':=by
 induction l with
 | nil=>simp[Ke,look]
 | cons p l ih=>
  obtain⟨k,b⟩:=p
  by_cases h:k=id
  ·subst h
   by_cases h':k=id'
   ·simp[Ke,look,h']
   ·simp[Ke,look,h']
  ·simp only[Ke,look,AU,h,if_false,ih]
   by_cases h':k=id'
   ·subst h';simp[Ne.symm h]
   ·simp[h']
theorem Mt {α:Type} (l:List (Nat × α)) (id id':Nat):look (drop l id) id'=if id=id' then none else look l id':=by
 induction l with
 | nil=>simp[drop,look]
 | cons p l ih=>
  obtain⟨k,b⟩:=p
  by_cases h:k=id
  ·subst h
   simp only[drop,AU,if_true,ih,look]
   by_cases h':k=id'<;>simp[h']
  ·simp only[drop,look,AU,h,if_false,ih]
   by_cases h':k=id'
   ·subst h';simp[Ne.symm h]
   ·simp[h']
abbrev EB:=List (Nat × GM)
structure H where
 next:Nat
 bl:EB
 deriving Inhabited
def H.add (U:H) (b:GM):H:=⟨U.next+1,(U.next,b)::U.bl⟩
def H.set (U:H) (id:Nat) (b:GM):H:=⟨U.next,Ke U.bl id b⟩
def H.del (U:H) (id:Nat):H:=⟨U.next,drop U.bl id⟩
def Hr (R:Cz) (s:Nat) (l:List V) (arr:Array Value):Prop:=
 ∀(k:Nat) (v:V),l[k]? = some v->∃a,Ao R v=some a/\a.oneCell'=true/\arr[s+k]? = some a
theorem Hr.mono {R R':Cz} {s:Nat} {l:List V} {arr:Array Value} (h:Hr R s l arr) (hle:Le R R'):Hr R' s l arr:=fun k v hk=>
 let ⟨a,ha,h1,h2⟩:=h k v hk
 ⟨a,Cr hle v a ha,h1,h2⟩
def C4 (R:Cz):List (V × V)->List MapEntry->Prop
 | [],[]=>True
 | (k,v)::l,e::es=>Ao R k=some e.key/\Ao R v=some e.val/\C4 R l es
 | _,_=>False
theorem C4.mono {R R':Cz} (hle:Le R R'):∀{l:List (V × V)} {es:List MapEntry},C4 R l es->C4 R' l es
 | [],[],_=>trivial
 | (_,_)::_,_::_,⟨h1,h2,h3⟩=>⟨Cr hle _ _ h1,Cr hle _ _ h2,C4.mono hle h3⟩
 | [],_::_,h=>h.elim
 | _::_,[],h=>h.elim
def FB (R:Cz) (i:BI) (b:GM) (w:World):Prop:=
 match b with
 | .cells l=>∃arr el lo hi,w.heap[i.blk]? = some (.cells arr el (lo,hi))/\Hr R i.shift l arr/\i.shift+i.endc<=arr.size/\l.length<=i.endc /\
   (∀off,off<arr.size->¬(lo<=off/\off<hi))
 | .map l=>∃es clock,w.heap[i.blk]? = some (.map es clock)/\C4 R l es.toList
 | .siter s p=>w.heap[i.blk]? = some (.stringIter ⟨s.toArray⟩ p)
 | .unit t=>∃fr,w.heap[i.blk]? = some (.cells #[] t fr)
def Ip (R:Cz) (i:BI) (b:GM) (w:World):Prop:=
 match b with
 | .cells l=>∃arr el fr,w.heap[i.blk]? = some (.cells arr el fr)/\Hr R i.shift l arr
 | _=>False
theorem FB.mono {R R':Cz} {i:BI} {b:GM} {w w':World} (h:FB R i b w) (hle:Le R R') (hw:w'.heap[i.blk]? = w.heap[i.blk]?):FB R' i b w':=by
 cases b with
 | cells l=>
  obtain⟨arr,el,lo,hi,h1,h2,h3,h4,h5⟩:=h
  exact⟨arr,el,lo,hi,hw.trans h1,h2.mono hle,h3,h4,h5⟩
 | map l=>
  obtain⟨es,c,h1,h2⟩:=h
  exact⟨es,c,hw.trans h1,h2.mono hle⟩
 | siter s p=>exact hw.trans h
 | unit t=>obtain⟨fr,h1⟩:=h;exact⟨fr,hw.trans h1⟩
theorem Ip.mono {R R':Cz} {i:BI} {b:GM} {w w':World} (h:Ip R i b w) (hle:Le R R') (hw:w'.heap[i.blk]? = w.heap[i.blk]?):Ip R' i b w':=by
 cases b with
 | cells l=>
  obtain⟨arr,el,fr,h1,h2⟩:=h
  exact⟨arr,el,fr,hw.trans h1,h2.mono hle⟩
 | _=>exact h.elim
theorem FB.lt {R:Cz} {i:BI} {b:GM} {w:World} (h:FB R i b w):i.blk<w.heap.size:=by
 have:∃o,w.heap[i.blk]? = some o:=by
  cases b with
  | cells l=>obtain⟨arr,el,lo,hi,h1,_⟩:=h;exact⟨_,h1⟩
  | map l=>obtain⟨es,c,h1,_⟩:=h;exact⟨_,h1⟩
  | siter s p=>exact⟨_,h⟩
  | unit t=>obtain⟨fr,h1⟩:=h;exact⟨_,h1⟩
 obtain⟨o,ho⟩:=this
 rcases Av i.blk w.heap.size with h|h
 ·exact h
 ·simp[CH h]at ho
structure Cx where
 O:Nat->Prop
 w0:World
 E:EB
 G:Nat->Bool
structure Dt (C:Cx) (R:Cz) (U:H) (w:World):Prop where
 fresh:∀id,U.next<=id->R id=none
 own:∀id b,look U.bl id=some b->∃i,R id=some i/\C.O i.blk/\FB R i b w
 inj:∀id id' b b' i i',look U.bl id=some b->look U.bl id'=some b'->R id=some i->R id'=some i'->i.blk=i'.blk->id=id'
 ext:∀id b,look C.E id=some b->∃i,R id=some i/\¬C.O i.blk/\Ip R i b w
 glob:∀g,C.G g=true->∃i,R g=some i/\i.blk=g/\i.shift=0
 fr:∀blk,¬C.O blk->w.heap[blk]? = C.w0.heap[blk]?
 size:C.w0.heap.size<=w.heap.size
 new:∀blk,C.w0.heap.size<=blk->C.O blk
 os:w.os=C.w0.os
 tape:w.tape=C.w0.tape
 output:w.output=C.w0.output
def G6 (n:Nat) (R R':Cz):Prop:=∀id,id<n->R' id=R id
theorem G6.refl (n:Nat) (R:Cz):G6 n R R:=fun _ _=>rfl
theorem G6.trans {n m:Nat} {R S T:Cz} (h:G6 n R S) (k:G6 m S T) (hn:n<=m):G6 n R T:=fun id hi=>(k id (by omega)).trans (h id hi)
theorem G6.le {n:Nat} {R R':Cz} (h:G6 n R R') (hf:∀id,n<=id->R id=none):Le R R':=fun id i hi=>by
 rcases Av id n with hl|hl
 ·rw[h id hl];exact hi
 ·rw[hf id hl]at hi;cases hi
def IP (R:Cz) (id:Nat) (i:BI):Cz:=fun k=>if k=id then some i else R k
theorem CN (R:Cz) (id:Nat) (i:BI):IP R id i id=some i:=by simp[IP]
theorem Bp {R:Cz} {id k:Nat} {i:BI} (h:k≠id):IP R id i k=R k:=by simp[IP,h]
theorem E6 (R:Cz) (n:Nat) (i:BI):G6 n R (IP R n i):=fun id hi=>Bp (by omega)
theorem Dt.next_of_own {C:Cx} {R:Cz} {U:H} {w:World} (h:Dt C R U w) {id:Nat} {b:GM} (hb:look U.bl id=some b):id<U.next:=by
 rcases Av id U.next with hl|hl
 ·exact hl
 ·obtain⟨i,hi,_⟩:=h.own id b hb
  rw[h.fresh id hl]at hi;cases hi
theorem Dt.drawn {C:Cx} {R:Cz} {U:H} {w:World} (h:Dt C R U w) (d:Nat):Dt C R U { w with drawn:=d }:=
 ⟨h.fresh,h.own,h.inj,h.ext,h.glob,h.fr,h.size,h.new,h.os,h.tape,h.output⟩
structure FF (w w':World):Prop where
 old:∀k,k<w.heap.size->w'.heap[k]? = w.heap[k]?
 size:w'.heap.size=w.heap.size+1
 os:w'.os=w.os
 tape:w'.tape=w.tape
 output:w'.output=w.output
theorem FF.of_alloc (w:World) (o:Obj):FF w (w.alloc o):=
 ⟨fun k hk=>by show (w.heap.push o)[k]? = _;rw[Array.getElem?_push,if_neg (by omega)],World.size_alloc w o,rfl,rfl,rfl⟩
theorem Dt.alloc {C:Cx} {R:Cz} {U:H} {w w':World} (h:Dt C R U w) (hn:FF w w') (b:GM) (i:BI) (hi:i.blk=w.heap.size)
  (hb:FB (IP R U.next i) i b w'):Dt C (IP R U.next i) (U.add b) w':=by
 have hle:Le R (IP R U.next i):=(E6 R U.next i).le h.fresh
 have hold:=hn.old
 have hO:C.O w.heap.size:=h.new _ h.size
 refine⟨?_,?_,?_,?_,?_,?_,?_,h.new,hn.os.trans h.os,hn.tape.trans h.tape,hn.output.trans h.output⟩
 ·intro id hid
  have hid':U.next+1<=id:=hid
  rw[Bp (by omega)];exact h.fresh id (by omega)
 ·intro id c hc
  by_cases he:id=U.next
  ·subst he
   simp only[H.add,look,AU,if_true,AQ.injEq]at hc
   subst hc
   exact⟨i,CN _ _ _,hi ▸ hO,hb⟩
  ·simp only[H.add,look,AU,Ne.symm he,if_false]at hc
   obtain⟨j,hj,hOj,hok⟩:=h.own id c hc
   exact⟨j,by rw[Bp he];exact hj,hOj,hok.mono hle (hold _ hok.lt)⟩
 ·intro id id' c c' j j' hc hc' hj hj' hbl
  by_cases he:id=U.next
  ·by_cases he':id'=U.next
   ·rw[he,he']
   ·exfalso
    subst he
    rw[CN]at hj;cases hj
    simp only[H.add,look,AU,Ne.symm he',if_false]at hc'
    rw[Bp he']at hj'
    obtain⟨k,hk,_,hok⟩:=h.own id' c' hc'
    rw[hk]at hj';cases hj'
    have:=hok.lt
    omega
  ·by_cases he':id'=U.next
   ·exfalso
    subst he'
    rw[CN]at hj';cases hj'
    simp only[H.add,look,AU,Ne.symm he,if_false]at hc
    rw[Bp he]at hj
    obtain⟨k,hk,_,hok⟩:=h.own id c hc
    rw[hk]at hj;cases hj
    have:=hok.lt
    omega
   ·simp only[H.add,look,AU,Ne.symm he,Ne.symm he',if_false]at hc hc'
    rw[Bp he]at hj;rw[Bp he']at hj'
    exact h.inj id id' c c' j j' hc hc' hj hj' hbl
 ·intro id c hc
  obtain⟨j,hj,hno,hok⟩:=h.ext id c hc
  refine⟨j,hle _ _ hj,hno,hok.mono hle (hold _ ?_)⟩
  rcases Av j.blk w.heap.size with hl|hl
  ·exact hl
  ·exact absurd (h.new _ (Bc h.size hl)) hno
 ·intro g hg
  obtain⟨j,hj,hb⟩:=h.glob g hg
  exact⟨j,hle _ _ hj,hb⟩
 ·intro blk hno
  rw[<-h.fr blk hno]
  refine hold _ ?_
  rcases Av blk w.heap.size with hl|hl
  ·exact hl
  ·exact absurd (h.new _ (Bc h.size hl)) hno
 ·rw[hn.size];have:=h.size;omega
theorem Dt.write {C:Cx} {R:Cz} {U:H} {w w':World} (h:Dt C R U w) {id:Nat} {b c:GM} {i:BI} (hb:look U.bl id=some b) (hi:R id=some i)
  (hc:FB R i c w') (hold:∀k,k≠i.blk->w'.heap[k]? = w.heap[k]?) (hsz:w'.heap.size=w.heap.size)
  (hos:w'.os=w.os) (htape:w'.tape=w.tape) (hout:w'.output=w.output):Dt C R (U.set id c) w':=by
 have hlook:∀k,look (U.set id c).bl k=if id=k then(look U.bl k).map (fun _=>c)else look U.bl k:=fun k=>HW U.bl id k c
 have hOi:C.O i.blk:=by obtain⟨j,hj,hO,_⟩:=h.own id b hb;rw[hi]at hj;cases hj;exact hO
 refine⟨h.fresh,?_,?_,?_,h.glob,?_,?_,h.new,hos.trans h.os,htape.trans h.tape,hout.trans h.output⟩
 ·intro k d hd
  rw[hlook]at hd
  by_cases he:id=k
  ·subst he
   rw[if_pos rfl,hb]at hd;cases hd
   exact⟨i,hi,hOi,hc⟩
  ·rw[if_neg he]at hd
   obtain⟨j,hj,hO,hok⟩:=h.own k d hd
   refine⟨j,hj,hO,hok.mono (Le.refl _) (hold _ fun hbl=>he (h.inj id k b d i j hb hd hi hj hbl.symm))⟩
 ·intro k k' d d' j j' hd hd' hj hj' hbl
  rw[hlook]at hd hd'
  have hs:∀m e,(if id=m then(look U.bl m).map (fun _=>c)else look U.bl m)=some e->∃f,look U.bl m=some f:=fun m e hm=>by
   by_cases he:id=m
   ·rw[if_pos he]at hm
    cases hl:look U.bl m with
    | none=>rw[hl]at hm;cases hm
    | some f=>exact⟨f,rfl⟩
   ·rw[if_neg he]at hm;exact⟨e,hm⟩
  obtain⟨f,hf⟩:=hs k d hd
  obtain⟨f',hf'⟩:=hs k' d' hd'
  exact h.inj k k' f f' j j' hf hf' hj hj' hbl
 ·intro k d hd
  obtain⟨j,hj,hn,hok⟩:=h.ext k d hd
  exact⟨j,hj,hn,hok.mono (Le.refl _) (hold _ fun hbl=>hn (hbl ▸ hOi))⟩
 ·intro blk hn
  rw[<-h.fr blk hn]
  exact hold _ fun hbl=>hn (hbl ▸ hOi)
 ·rw[hsz];exact h.size
theorem Dt.del {C:Cx} {R:Cz} {U:H} {w:World} (h:Dt C R U w) (id:Nat):Dt C R (U.del id) w:=by
 have hlook:∀k,look (U.del id).bl k=if id=k then none else look U.bl k:=fun k=>Mt U.bl id k
 have hs:∀k c,look (U.del id).bl k=some c->look U.bl k=some c:=fun k c hk=>by
  rw[hlook]at hk
  by_cases he:id=k
  ·rw[if_pos he]at hk;cases hk
  ·rwa [if_neg he]at hk
 exact⟨h.fresh,fun k c hk=>h.own k c (hs k c hk),fun k k' c c' i i' hk hk'=>h.inj k k' c c' i i' (hs k c hk) (hs k' c' hk'),h.ext,h.glob,h.fr,h.size,h.new,h.os,h.tape,h.output⟩
theorem Dt.rename {C:Cx} {R:Cz} {U:H} {w w':World} (h:Dt C R U w) {id:Nat} {b c:GM} {i:BI} (hb:look U.bl id=some b) (hi:R id=some i)
  (hc:FB (IP R U.next i) i c w') (hold:∀k,k≠i.blk->w'.heap[k]? = w.heap[k]?) (hsz:w'.heap.size=w.heap.size)
  (hos:w'.os=w.os) (htape:w'.tape=w.tape) (hout:w'.output=w.output):Dt C (IP R U.next i) ((U.del id).add c) w':=by
 have hle:Le R (IP R U.next i):=(E6 R U.next i).le h.fresh
 have hOi:C.O i.blk:=by obtain⟨j,hj,hO,_⟩:=h.own id b hb;rw[hi]at hj;cases hj;exact hO
 have hlook:∀k,look (U.del id).bl k=if id=k then none else look U.bl k:=fun k=>Mt U.bl id k
 have hs:∀k d,k≠U.next->look ((U.del id).add c).bl k=some d->id≠k/\look U.bl k=some d:=fun k d hk hd=>by
  simp only[H.add,H.del,look,AU,Ne.symm hk,if_false]at hd
  have hd':look (U.del id).bl k=some d:=hd
  rw[hlook]at hd'
  by_cases he:id=k
  ·rw[if_pos he]at hd';cases hd'
  ·rw[if_neg he]at hd';exact⟨he,hd'⟩
 refine⟨?_,?_,?_,?_,?_,?_,?_,h.new,hos.trans h.os,htape.trans h.tape,hout.trans h.output⟩
 ·intro k hk
  have hk':U.next+1<=k:=hk
  rw[Bp (by omega)];exact h.fresh k (by omega)
 ·intro k d hd
  by_cases he:k=U.next
  ·subst he
   simp only[H.add,H.del,look,AU,if_true,AQ.injEq]at hd
   subst hd
   exact⟨i,CN _ _ _,hOi,hc⟩
  ·obtain⟨hne,hd'⟩:=hs k d he hd
   obtain⟨j,hj,hO,hok⟩:=h.own k d hd'
   refine⟨j,hle _ _ hj,hO,hok.mono hle (hold _ fun hbl=>hne (h.inj id k b d i j hb hd' hi hj hbl.symm))⟩
 ·intro k k' d d' j j' hd hd' hj hj' hbl
  by_cases he:k=U.next
  ·by_cases he':k'=U.next
   ·rw[he,he']
   ·exfalso
    subst he
    rw[CN]at hj;cases hj
    obtain⟨hne,hd2⟩:=hs k' d' he' hd'
    rw[Bp he']at hj'
    exact hne (h.inj id k' b d' _ j' hb hd2 hi hj' hbl)
  ·by_cases he':k'=U.next
   ·exfalso
    subst he'
    rw[CN]at hj';cases hj'
    obtain⟨hne,hd2⟩:=hs k d he hd
    rw[Bp he]at hj
    exact hne (h.inj id k b d _ j hb hd2 hi hj hbl.symm)
   ·obtain⟨_,hd2⟩:=hs k d he hd
    obtain⟨_,hd2'⟩:=hs k' d' he' hd'
    rw[Bp he]at hj;rw[Bp he']at hj'
    exact h.inj k k' d d' j j' hd2 hd2' hj hj' hbl
 ·intro k d hd
  obtain⟨j,hj,hn,hok⟩:=h.ext k d hd
  exact⟨j,hle _ _ hj,hn,hok.mono hle (hold _ fun hbl=>hn (hbl ▸ hOi))⟩
 ·intro g hg
  obtain⟨j,hj,hb⟩:=h.glob g hg
  exact⟨j,hle _ _ hj,hb⟩
 ·intro blk hn
  rw[<-h.fr blk hn]
  exact hold _ fun hbl=>hn (hbl ▸ hOi)
 ·rw[hsz];exact h.size
def rd (E:EB) (U:H) (id:Nat):Option (List V):=
 match look U.bl id with
 | some (.cells l)=>some l
 | some _=>none
 | none=>match look E id with
  | some (.cells l)=>some l
  | _=>none
theorem Dt.read {C:Cx} {R:Cz} {U:H} {w:World} (h:Dt C R U w) {id:Nat} {l:List V} (hl:rd C.E U id=some l) :
  ∃i arr el fr,R id=some i/\w.heap[i.blk]? = some (.cells arr el fr)/\Hr R i.shift l arr:=by
 unfold rd at hl
 cases hb:look U.bl id with
 | some b=>
  rw[hb]at hl
  obtain⟨i,hi,_,hok⟩:=h.own id b hb
  cases b with
  | cells m=>cases hl;obtain⟨arr,el,lo,hi',h1,h2,_⟩:=hok;exact⟨i,arr,el,_,hi,h1,h2⟩
  | map m=>cases hl
  | siter s p=>cases hl
  | unit t=>cases hl
 | none=>
  rw[hb]at hl
  cases he:look C.E id with
  | none=>rw[he]at hl;cases hl
  | some b=>
   rw[he]at hl
   obtain⟨i,hi,_,hok⟩:=h.ext id b he
   cases b with
   | cells m=>cases hl;obtain⟨arr,el,fr,h1,h2⟩:=hok;exact⟨i,arr,el,fr,hi,h1,h2⟩
   | map m=>cases hl
   | siter s p=>cases hl
   | unit t=>cases hl
inductive AO where
 | tmp (i:Nat)
 | con (v:V)
 deriving Inhabited
inductive FK where
 | int | bool | str
 deriving DecidableEq,Inhabited
inductive Fp where
 | bool | ptr | slice | map | func
 | iface (lit:Bool)
 | flat (l:List (Nat × FK))
 | none
 deriving DecidableEq,Inhabited
inductive AIU where
 | toInt (k:IntKind)
 | same
 | toBytes (el:TypeId)
 | toStr
 | bad
 deriving DecidableEq,Inhabited
inductive Eb where
 | mov (x:AO)
 | pick (c a b:AO)
 | alloc (el:TypeId) (z:List V)
 | box (el:TypeId) (x:AO)
 | build (z:List V) (Js:List (Nat × Nat × AO))
 | buildSlice (el:TypeId) (n:Nat) (z:List V) (Js:List (Nat × Nat × AO))
 | load (n:Option Nat) (x:AO)
 | store (n:Nat) (x v:AO)
 | nilck (x:AO)
 | bin (op:BinOp) (t:Fp) (x y:AO)
 | un (op:UnOp) (x:AO)
 | conv (t:AIU) (x:AO)
 | mkifc (t:TypeId) (x:AO)
 | mkfn (f:FuncId) (first captured:List AO)
 | mkslice (el:TypeId) (esz bytes:Nat) (z:List V) (len cap:AO)
 | sliceStr (x:AO) (lo hi:Option AO)
 | sliceSl (esz:Nat) (x:AO) (lo hi mx:Option AO)
 | sliceArr (n esz:Nat) (x:AO) (lo hi mx:Option AO)
 | faddr (off:Nat) (x:AO)
 | field (off:Nat) (n:Option Nat) (x:AO)
 | iaddrS (esz:Nat) (x i:AO)
 | iaddrA (n esz:Nat) (x i:AO)
 | idxStr (x i:AO)
 | extract (i:Nat) (x:AO)
 | len (str:Bool) (x:AO)
 | lenC (n:Nat)
 | cap (x:AO)
 | append (el:TypeId) (esz bytes:Nat) (s x:AO)
 | copy (esz:Nat) (d s:AO)
 | min (x:AO) (l:List AO)
 | max (x:AO) (l:List AO)
 | call (f:FuncId) (args:List AO)
 | callv (f:AO) (args:List AO)
 | mkmap
 | lookup (t:Fp) (z:V) (m x:AO)
 | mapset (t:Fp) (m k v:AO)
 | alloc0 (el:TypeId)
 | box0 (el:TypeId) (x:AO)
 | load0 (x:AO)
 | store0 (x v:AO)
 | faddr0 (t:TypeId) (x:AO)
 | idxArr (n esz:Nat) (s:Option Nat) (x i:AO)
 | bad
 deriving Inhabited
structure BO where
 dst:Option Nat
 op:Eb
 guard:Option (Nat × Bool)
 deriving Inhabited
structure DP where
 anc:Nat
 looks:List Nat
 deriving Inhabited
inductive AC where
 | skip
 | region (ops:List BO)
 | draw (ops:List BO) (plan:List DP)
 | seq (a b:AC)
 | cond (c:AO) (a b:AC)
 | block (id:Nat) (c:AC)
 | loop (c:AC)
 | exit (id:Nat)
 | ret
 | keep (ts:List Nat) (c:AC)
 | bad
 deriving Inhabited
inductive AR where
 | tmp (t:Nat)
 | cell (t:Nat) (n:Option Nat)
 deriving Inhabited
structure fL where
 ntmps:Nat
 results:List AR
 frees:List Nat
 body:AC
 deriving Inhabited
abbrev B6:=List (Nat × V)
def Ga (e:B6) (t:Nat):V:=
 match look e t with
 | some v=>v
 | none => .dead
def CP (e:B6):AO->V
 | .tmp i=>Ga e i
 | .con v=>v
def Fo (e:B6) (l:List AO):List V:=l.map (CP e)
def Df (e:B6):Option AO->Option V
 | some x=>some (CP e x)
 | none=>none
def V.live:V->Bool
 | .dead=>false
 | _=>true
def FC:List V->Nat->List V->List V
 | l,_,[]=>l
 | [],_,_::_=>[]
 | _::l,0,c::cs=>c::FC l 0 cs
 | a::l,n+1,c::cs=>a::FC l n (c::cs)
def Ez:List (Nat × Nat × V)->List V->Option (List V)
 | [],z=>some z
 | (off,size,v)::r,z=>
  if v.live&&Ak v.cells.length size&&Ag (off+size) z.length then Ez r (FC z off v.cells)else none
def Js (e:B6) (l:List (Nat × Nat × AO)):List (Nat × Nat × V):=l.map fun(o,s,x)=>(o,s,CP e x)
def An:List V->Bool
 | []=>true
 | v::l=>v.one&&An l
def bi (b:Bool):V := .bool b
def Sf (op:BinOp) (a b:Int):Option Bool:=
 match op with
 | .eql=>some (a==b)
 | .neq=>some (a != b)
 | .lss=>some (decide (a<b))
 | .leq=>some (decide (a<=b))
 | .gtr=>some (decide (a > b))
 | .geq=>some (decide (a ≥ b))
 | _=>none
def Y7 (op:BinOp) (k:IntKind) (a b:Int):Option Int:=
 match op with
 | .add=>some (k.wrap (a+b))
 | .sub=>some (k.wrap (a-b))
 | .mul=>some (k.wrap (a*b))
 | .quo=>if b=0 then none else some (k.wrap (a.tdiv b))
 | .rem=>if b=0 then none else some (a.tmod b)
 | .and=>some (k.wrap (BG k.bits a &&& BG k.bits b).toNat)
 | .or=>some (k.wrap (BG k.bits a ||| BG k.bits b).toNat)
 | .xor=>some (k.wrap (BG k.bits a ^^^ BG k.bits b).toNat)
 | .andNot=>some (k.wrap (BG k.bits a &&& ~~~BG k.bits b).toNat)
 | _=>none
def Oh (op:BinOp) (k:IntKind) (a b:Int):Option Int:=
 if b<0 then none else
 match op with
 | .shl=>some (k.wrap (a*2 ^ (Ex b.toNat k.bits)))
 | .shr=>some (a.fdiv (2 ^ (Ex b.toNat k.bits)))
 | _=>none
def UF (op:BinOp) (a b:BS):Option V:=
 match op with
 | .add=>match Ag (AP a.len b.len) 1000000000000 with
  | true=>some (.str (a.cat b))
  | false=>none
 | .eql=>some (.bool (a.beq b))
 | .neq=>some (.bool (not (a.beq b)))
 | .lss=>some (.bool (Op.bytesLess a.toList b.toList))
 | .leq=>some (.bool (Op.bytesLess a.toList b.toList || a.beq b))
 | .gtr=>some (.bool (not (Op.bytesLess a.toList b.toList || a.beq b)))
 | .geq=>some (.bool (not (Op.bytesLess a.toList b.toList)))
 | _=>none
def Bt (a b:Int):Bool:=match a,b with
 | .ofNat m,.ofNat n=>Ak m n
 | .negSucc m,.negSucc n=>Ak m n
 | _,_=>false
theorem Se (a b:Int):Bt a b=(a==b):=by
 cases a<;>cases b<;>simp only[Bt]<;>(rw[Fg];simp[AU])<;>omega
def LX:FK->V->V->Option Bool
 | .int,.int k a,.int k' b=>if k=k' then some (Bt a b)else none
 | .bool,.bool a,.bool b=>some (a==b)
 | .str,.str a,.str b=>some (a.beq b)
 | _,_,_=>none
def JA:List V->Nat->V
 | [],_ => .dead
 | v::_,0=>v
 | _::l,n+1=>JA l n
def G4:List (Nat × FK)->List V->List V->Option Bool
 | [],_,_=>some true
 | (o,k)::r,xs,ys=>match LX k (JA xs o) (JA ys o)with
  | some a=>match G4 r xs ys with
   | some b=>some (a&&b)
   | none=>none
  | none=>none
def eqM:Fp->V->V->Option Bool
 | .flat l,.agg xs,.agg ys=>G4 l xs ys
 | _,_,_=>none
def Qu (t:Fp) (x:V):Bool:=match eqM t x x with
 | some _=>true
 | none=>false
def Qx (t:Fp) (k:V):List (V × V)->Option (Option V)
 | []=>some none
 | (q,v)::l=>match eqM t k q with
  | some true=>some (some v)
  | some false=>Qx t k l
  | none=>none
def Jz:Fp->V->V->Option Bool
 | .flat l,.agg xs,.agg ys=>G4 l xs ys
 | .bool,.bool a,.bool b=>some (a==b)
 | .ptr,.nilp,.nilp=>some true
 | .ptr,.nilp,.ptr _ _=>some false
 | .ptr,.ptr _ _,.nilp=>some false
 | .slice,.nils,.nils=>some true
 | .slice,.nils,.sl _ _ _ _=>some false
 | .slice,.sl _ _ _ _,.nils=>some false
 | .slice,.nils,.sle _ _ _ _=>some false
 | .slice,.sle _ _ _ _,.nils=>some false
 | .map,.nilm,.nilm=>some true
 | .map,.nilm,.mp _=>some false
 | .map,.mp _,.nilm=>some false
 | .func,.nilf,.nilf=>some true
 | .func,.nilf,.fn _ _ _=>some false
 | .func,.fn _ _ _,.nilf=>some false
 | .iface true,.nili,.nili=>some true
 | .iface _,.nili,.ifc _ _=>some false
 | .iface _,.ifc _ _,.nili=>some false
 | _,_,_=>none
def G5 (op:BinOp) (t:Fp) (x y:V):Option V:=
 match x,y with
 | .int k a,.int k' b=>
  match op with
  | .shl | .shr=>(Oh op k a b).map (.int k)
  | .add | .sub | .mul | .quo | .rem | .and | .or | .xor | .andNot=>if k=k' then(Y7 op k a b).map (.int k)else none
  | _=>if k=k' then(Sf op a b).map .bool else none
 | .str a,.str b=>UF op a b
 | x,y=>
  match op with
  | .eql=>(Jz t x y).map .bool
  | .neq=>(Jz t x y).map fun b => .bool !b
  | _=>none
def unV (op:UnOp) (x:V):Option V:=
 match op,x with
 | .neg,.int k n=>some (.int k (k.wrap (0-n)))
 | .xor,.int k n=>some (.int k (k.wrap (BG k.bits (if k.signed then -1 else k.max) ^^^ BG k.bits n).toNat))
 | .not,.bool b=>some (.bool !b)
 | _,_=>none
def dS (l:List UInt8):List V:=l.map fun b => .int .u8 b.toNat
def FV:List V->Option (List UInt8)
 | []=>some []
 | .int .u8 n::l=>(FV l).map (UInt8.ofNat n.toNat::·)
 | _=>none
def Lq (E:EB) (U:H) (b off n:Nat):Option (List V):=
 match rd E U b with
 | some l=>if Ag (off+n) l.length then some ((l.drop off).take n)else none
 | none=>none
def V.isStr:V->Bool
 | .str _=>true
 | _=>false
def C1 (E:EB) (U:H) (esz:Nat):V->Option (Nat × List V)
 | .nils=>some (0,[])
 | .sle _ _ _ _=>some (0,[])
 | .sl b off len _=>(Lq E U b off (len*esz)).map fun l=>(len,l)
 | .str l=>if esz=1 then some (l.len,dS l.toList)else none
 | _=>none
def Bw (need bytes:Nat):Bool:=Ag (need*bytes) 140737488355328&&Ag need 9223372036854775807
def C6 (E:EB) (esz bytes:Nat) (s x:V) (U:H):Option (V × H):=
 match C1 E U esz x with
 | none=>none
 | some (n,new)=>
  match s with
  | .nils=>
   if n=0 then some (.nils,U)
   else if Bw n bytes then some (.sl U.next 0 n (.op esz),U.add (.cells new))else none
  | .sl b off len (.ex c)=>
   if Ag (len+n) c then
    if n=0 then some (s,U)else
    match look U.bl b with
    | some (.cells l)=>if Ag (off+(len+n)*esz) l.length&&An new then some (.sl b off (len+n) (.ex c),U.set b (.cells (FC l (off+len*esz) new)))else none
    | _=>none
   else if Bw (len+n) bytes then
    match Lq E U b off (len*esz)with
    | some old=>some (.sl U.next 0 (len+n) (.op esz),U.add (.cells (old++new)))
    | none=>none
   else none
  | .sl b 0 len (.op e)=>
   if n=0 then some (s,U)else
   match look U.bl b with
   | some (.cells l)=>
    if Ak l.length (len*esz)&&Ak e esz&&Bw (len+n) bytes&&An new then some (.sl U.next 0 (len+n) (.op esz),(U.del b).add (.cells (l++new)))else none
   | _=>none
  | .sl _ _ _ (.op _)=>if n=0 then some (s,U)else none
  | _=>none
def G0:Option V->Nat->Option Nat
 | none,d=>some d
 | some (.int _ n),_=>if 0<=n then some n.toNat else none
 | _,_=>none
def Cs (esz:Nat) (x:V) (lo hi mx:Option V):Option V:=
 match x with
 | .nils=>
  match G0 mx 0 with
  | none=>none
  | some m=>match G0 hi 0 with
   | none=>none
   | some h=>match G0 lo 0 with
    | none=>none
    | some l=>if Ag l h&&Ag h m&&Ak m 0 then some .nils else none
 | .sl b off len (.ex c)=>
  match G0 mx c with
  | none=>none
  | some m=>match G0 hi len with
   | none=>none
   | some h=>match G0 lo 0 with
    | none=>none
    | some l=>if Ag l h&&Ag h m&&(mx.isNone || Ag m c)then some (.sl b (if Ak m l then off else off+l*esz) (h-l) (.ex (m-l)))else none
 | .sl b off len (.op e)=>
  match G0 hi len with
  | none=>none
  | some h=>match G0 lo 0 with
   | none=>none
   | some l=>
    match mx with
    | none=>
     if Ag l h&&Ag h len&&Ak e esz then
      if Ak l len then(if Ak l 0 then some x else some (.sle b off l e))else some (.sl b (off+l*esz) (h-l) (.op e))
     else none
    | some v=>match G0 (some v) 0 with
     | none=>none
     | some m=>if Ag l h&&Ag h m&&Ag m len then some (.sl b (if Ak m l then off else off+l*esz) (h-l) (.ex (m-l)))else none
 | .sle _ _ _ _=>
  match G0 hi 0 with
  | none=>none
  | some h=>match G0 lo 0 with
   | none=>none
   | some l=>match mx with
    | none=>if Ak h 0&&Ak l 0 then some x else none
    | some _=>none
 | _=>none
def IW (n esz:Nat) (x:V) (lo hi mx:Option V):Option V:=
 match x with
 | .ptr b off=>
  match G0 mx n with
  | none=>none
  | some m=>match G0 hi n with
   | none=>none
   | some h=>match G0 lo 0 with
    | none=>none
    | some l=>if Ag l h&&Ag h m&&Ag m n then some (.sl b (if Ak m l then off else off+l*esz) (h-l) (.ex (m-l)))else none
 | _=>none
def IV (x:V) (lo hi:Option V):Option V:=
 match x with
 | .str s=>
  match G0 hi s.len with
  | none=>none
  | some h=>match G0 lo 0 with
   | none=>none
   | some l=>if Ag l h&&Ag h s.len then some (.str (s.sub l h))else none
 | _=>none
def Ug:V->List V->Option V
 | x,[]=>some x
 | .int k a,.int k' b::l=>if k=k' then Ug (.int k (if b<a then b else a)) l else none
 | _,_::_=>none
def Uh:V->List V->Option V
 | x,[]=>some x
 | .int k a,.int k' b::l=>if k=k' then Uh (.int k (if b > a then b else a)) l else none
 | _,_::_=>none
def LV (l:List V) (off:Nat):Option Nat->Option V
 | none=>l[off]?
 | some n=>if Ag (off+n) l.length then some (.agg ((l.drop off).take n))else none
def BV (o:Eb) (e:B6):Option V:=
 match o with
 | .mov x=>let v:=CP e x;if v.live then some v else none
 | .pick c a b=>
  match CP e c with
  | .bool true=>let v:=CP e a;if v.live then some v else none
  | .bool false=>let v:=CP e b;if v.live then some v else none
  | _=>none
 | .build z ps=>match Ez (Js e ps) z with
  | some l=>some (.agg l)
  | none=>none
 | .nilck x=>match CP e x with
  | .ptr b off=>some (.ptr b off)
  | _=>none
 | .bin op t x y=>G5 op t (CP e x) (CP e y)
 | .un op x=>unV op (CP e x)
 | .conv (.toInt k) x=>match CP e x with
  | .int _ n=>some (.int k (k.wrap n))
  | _=>none
 | .conv .same x=>match CP e x with
  | .str l=>some (.str l)
  | _=>none
 | .mkifc t x=>let v:=CP e x;if v.live then some (.ifc t v)else none
 | .mkfn f a c=>if(Fo e a).all V.live&&(Fo e c).all V.live then some (.fn f (Fo e a) (Fo e c))else none
 | .sliceStr x lo hi=>IV (CP e x) (Df e lo) (Df e hi)
 | .sliceSl esz x lo hi mx=>Cs esz (CP e x) (Df e lo) (Df e hi) (Df e mx)
 | .sliceArr n esz x lo hi mx=>IW n esz (CP e x) (Df e lo) (Df e hi) (Df e mx)
 | .faddr off x=>match CP e x with
  | .ptr b o=>some (.ptr b (o+off))
  | _=>none
 | .field off none x=>match CP e x with
  | .agg l=>l[off]?
  | _=>none
 | .field off (some n) x=>match CP e x with
  | .agg l=>if Ag (off+n) l.length then some (.agg ((l.drop off).take n))else none
  | _=>none
 | .iaddrS esz x i=>match CP e x,CP e i with
  | .sl b off len _,.int _ n=>if 0<=n/\n<len then some (.ptr b (off+n.toNat*esz))else none
  | _,_=>none
 | .iaddrA len esz x i=>match CP e x,CP e i with
  | .ptr b off,.int _ n=>if 0<=n/\n<len then some (.ptr b (off+n.toNat*esz))else none
  | _,_=>none
 | .idxStr x i=>match CP e x,CP e i with
  | .str s,.int _ n=>if 0<=n then(if B2 n.toNat s.len then some (.int .u8 (s.get n.toNat))else none)else none
  | _,_=>none
 | .extract i x=>match CP e x with
  | .tup l=>l[i]?
  | _=>none
 | .load0 x=>match CP e x with
  | .ptr _ _=>some (.agg [])
  | _=>none
 | .idxArr len esz s x i=>match CP e x,CP e i with
  | .agg l,.int _ n=>if 0<=n/\n<len then LV l (n.toNat*esz) s else none
  | _,_=>none
 | .len true x=>match CP e x with
  | .str s=>some (.int .i64 s.len)
  | _=>none
 | .len false x=>match CP e x with
  | .nils=>some (.int .i64 0)
  | .sl _ _ n _=>some (.int .i64 n)
  | .sle _ _ _ _=>some (.int .i64 0)
  | _=>none
 | .lenC n=>some (.int .i64 n)
 | .cap x=>match CP e x with
  | .nils=>some (.int .i64 0)
  | .sl _ _ _ (.ex c)=>some (.int .i64 c)
  | _=>none
 | .min x l=>match Ug (CP e x) (Fo e l)with
  | some (.int k n)=>some (.int k n)
  | _=>none
 | .max x l=>match Uh (CP e x) (Fo e l)with
  | some (.int k n)=>some (.int k n)
  | _=>none
 | _=>none
def L9 (t:Fp) (z m x:V) (U:H):Option V:=match m with
 | .mp b=>match look U.bl b with
  | some (.map l)=>if Qu t x then(match Qx t x l with
   | some (some v)=>some (.tup [v,.bool true])
   | some none=>if z.live then some (.tup [z,.bool false])else none
   | none=>none)else none
  | _=>none
 | _=>none
def SZ (t:Fp) (m k v:V) (U:H):Option (V × H):=match m with
 | .mp b=>match look U.bl b with
  | some (.map l)=>if Qu t k&&v.live then(match Qx t k l with
   | some none=>some (.dead,U.set b (.map (l++[(k,v)])))
   | _=>none)else none
  | _=>none
 | _=>none
def OF (t:TypeId) (x:V) (U:H):Option V:=match x with
 | .ptr b 0=>match look U.bl b with
  | some (.unit t')=>if Ak t t' then some (.ptr b 0)else none
  | _=>none
 | _=>none
def Cf (E:EB) (o:Eb) (e:B6) (U:H):Option V:=
 match o with
 | .load none x=>match CP e x with
  | .ptr b off=>match rd E U b with
   | some l=>l[off]?
   | none=>none
  | _=>none
 | .load (some n) x=>match CP e x with
  | .ptr b off=>match Lq E U b off n with
   | some l=>some (.agg l)
   | none=>none
  | _=>none
 | .conv .toStr x=>if(CP e x).isStr then none else match C1 E U 1 (CP e x)with
  | some (_,l)=>match FV l with
   | some s=>some (.str (BS.ofList s))
   | none=>none
  | none=>none
 | .lookup t z m x=>L9 t z (CP e m) (CP e x) U
 | .faddr0 t x=>OF t (CP e x) U
 | _=>none
def Cm (o:Eb) (e:B6) (next:Nat):Option (V × GM):=
 match o with
 | .alloc _ z=>some (.ptr next 0,.cells z)
 | .box _ x=>let v:=CP e x;if v.live&&An v.cells then some (.ptr next 0,.cells v.cells)else none
 | .buildSlice _ n z ps=>match Ez (Js e ps) z with
  | some l=>if An l then some (.sl next 0 n (.ex n),.cells l)else none
  | none=>none
 | .conv (.toBytes _) x=>match CP e x with
  | .str l=>if Ag l.len 1000000000000 then some (.sl next 0 l.len (.op 1),.cells (dS l.toList))else none
  | _=>none
 | .mkslice _ _ bytes z len cap=>match CP e len,CP e cap with
  | .int .i64 n,.int .i64 c=>
   if 0<=n/\n<=c/\c*bytes<=281474976710656/\c<=1000000000000 then some (.sl next 0 n.toNat (.ex c.toNat),.cells (As c.toNat z).flatten)else none
  | _,_=>none
 | .mkmap=>some (.mp next,.map [])
 | .alloc0 el=>some (.ptr next 0,.unit el)
 | .box0 el x=>match CP e x with
  | .agg []=>some (.ptr next 0,.unit el)
  | _=>none
 | _=>none
def Ep (E:EB) (o:Eb) (e:B6) (U:H):Option (V × H):=
 match o with
 | .store n x v=>match CP e x with
  | .ptr b off=>
   let cs:=(CP e v).cells
   match look U.bl b with
   | some (.cells l)=>if Ak cs.length n&&Ag (off+n) l.length&&An cs then some (.dead,U.set b (.cells (FC l off cs)))else none
   | _=>none
  | _=>none
 | .append _ esz bytes s x=>C6 E esz bytes (CP e s) (CP e x) U
 | .copy esz d s=>match CP e d,C1 E U esz (CP e s)with
  | .nils,some (_,_)=>some (.int .i64 0,U)
  | .sle _ _ _ _,some (_,_)=>some (.int .i64 0,U)
  | .sl b off len _,some (n,src)=>
   let m:=Ex n len
   if m=0 then some (.int .i64 0,U)else
   match look U.bl b with
   | some (.cells l)=>if Ag (off+m*esz) l.length&&An (src.take (m*esz))then some (.int .i64 m,U.set b (.cells (FC l off (src.take (m*esz)))))else none
   | _=>none
  | _,_=>none
 | .mapset t m k v=>SZ t (CP e m) (CP e k) (CP e v) U
 | .store0 x v=>match CP e x,CP e v with
  | .ptr _ _,.agg []=>some (.dead,U)
  | _,_=>none
 | _=>none
inductive Cls where
 | p | l | a | k
 deriving DecidableEq,Inhabited
def Eb.cls:Eb->Cls
 | .load _ _ | .conv .toStr _ | .lookup _ _ _ _ | .faddr0 _ _ => .l
 | .alloc _ _ | .box _ _ | .buildSlice _ _ _ _ | .conv (.toBytes _) _ | .mkslice _ _ _ _ _ _ | .mkmap | .alloc0 _ | .box0 _ _ => .a
 | .store _ _ _ | .append _ _ _ _ _ | .copy _ _ _ | .call _ _ | .callv _ _ | .mapset _ _ _ _ | .store0 _ _ => .k
 | _ => .p
def oh (E:EB) (o:Eb) (e:B6) (U:H):Option (V × H):=
 match o.cls with
 | .p=>match BV o e with
  | some v=>some (v,U)
  | none=>none
 | .l=>match Cf E o e U with
  | some v=>some (v,U)
  | none=>none
 | .a=>match Cm o e U.next with
  | some (v,b)=>some (v,U.add b)
  | none=>none
 | .k=>Ep E o e U
abbrev Ai:=FuncId->List V->H->Option (V × H)
def Cu (e:B6):Option Nat->V->B6
 | some d,v=>(d,v)::e
 | none,_=>e
def Dx (E:EB) (D:Ai) (o:Eb) (e:B6) (U:H):Option (V × H):=
 match o with
 | .call f args=>if(Fo e args).all V.live then D f (Fo e args) U else none
 | .callv f args=>match CP e f with
  | .fn g first cap=>if(Fo e args).all V.live then D g (first++Fo e args++cap) U else none
  | _=>none
 | o=>oh E o e U
def EP:V := .tup []
def Bq (e:B6):Option (Nat × Bool)->Option Bool
 | none=>some true
 | some (t,b)=>match Ga e t with
  | .bool c=>some (c==b)
  | .tup []=>some false
  | _=>none
def LY (E:EB) (D:Ai):List BO->B6->H->Option (B6 × H)
 | [],e,U=>some (e,U)
 | o::r,e,U=>
  match Bq e o.guard with
  | none=>none
  | some false=>LY E D r (Cu e o.dst EP) U
  | some true=>match Dx E D o.op e U with
   | none=>none
   | some (v,U')=>LY E D r (Cu e o.dst v) U'
def Bn:List Nat->Nat->Bool
 | [],_=>false
 | a::l,k=>Ak a k || Bn l k
def restr:List Nat->B6->B6
 | [],_=>[]
 | t::l,e=>match look e t with
  | some v=>(t,v)::restr l e
  | none=>restr l e
def CS (n0 n:Nat) (p:Nat->Bool):EB->EB
 | []=>[]
 | (id,b)::l=>if Ag n0 id&&B2 id (n0+n) && !p (id-n0)then CS n0 n p l else(id,b)::CS n0 n p l
def Ei (n0 n:Nat) (p:Nat->Bool):EB->EB
 | []=>[]
 | (id,b)::l=>if Ag n0 id&&B2 id (n0+n) && !p (id-n0)then(id,b)::Ei n0 n p l else Ei n0 n p l
structure DS where
 e:B6
 nx:Nat
 ss:List (EB)
 ks:List Nat
 am:Nat
 ls:List (Nat × Eb × B6 × V)
def DQ (anc am:Nat) (k:Nat):Bool:=anc.testBit k&&am.testBit k
def FO (E:EB) (D:Ai) (n0 n i:Nat) (o:BO) (p:DP) (s:DS):Option DS:=
 match Bq (restr p.looks s.e) o.guard with
 | none=>none
 | some false=>some { s with e:=Cu s.e o.dst EP }
 | some true=>
  match o.op.cls with
  | .p=>match BV o.op (restr p.looks s.e)with
   | none=>none
   | some v=>some { s with e:=Cu s.e o.dst v }
  | .l=>match s.ss with
   | []=>none
   | h::_=>match Cf E o.op (restr p.looks s.e) ⟨s.nx,CS n0 n (DQ p.anc s.am) h⟩with
    | none=>none
    | some v=>some { s with e:=Cu s.e o.dst v,ls:=(i,o.op,restr p.looks s.e,v)::s.ls }
  | .a=>match Cm o.op (restr p.looks s.e) (n0+i)with
   | none=>none
   | some (v,b)=>some { s with e:=Cu s.e o.dst v,ss:=s.ss.map ((n0+i,b)::·),am:=s.am ||| 2 ^ i }
  | .k=>match s.ss with
   | []=>none
   | h::_=>match Dx E D o.op (restr p.looks s.e) ⟨s.nx,CS n0 n (DQ p.anc s.am) h⟩with
    | none=>none
    | some (v,U')=>some { s with e:=Cu s.e o.dst v,nx:=U'.next,ss:=(Ei n0 n (DQ p.anc s.am) h++U'.bl)::s.ss,ks:=i::s.ks }
def CX (E:EB) (D:Ai) (n0 n:Nat):Nat->List BO->List DP->DS->Option DS
 | _,[],_,s=>some s
 | i,o::l,p::pl,s=>match FO E D n0 n i o p s with
  | none=>none
  | some s'=>CX E D n0 n (i+1) l pl s'
 | _,_::_,[],_=>none
mutual
def V.beq:V->V->Bool
 | .bool a,.bool b=>a==b
 | .int k a,.int l b=>decide (k=l)&&a==b
 | .str a,.str b=>decide (a=b)
 | .nilp,.nilp=>true
 | .ptr a b,.ptr c d=>Ak a c&&Ak b d
 | .nils,.nils=>true
 | .sl a b c x,.sl d e f y=>Ak a d&&Ak b e&&Ak c f&&decide (x=y)
 | .sle a b c x,.sle d e f y=>Ak a d&&Ak b e&&Ak c f&&Ak x y
 | .nilm,.nilm=>true
 | .mp a,.mp b=>Ak a b
 | .fn f a b,.fn g c d=>Ak f g&&Kh a c&&Kh b d
 | .nilf,.nilf=>true
 | .ifc t v,.ifc u x=>Ak t u&&V.beq v x
 | .nili,.nili=>true
 | .agg l,.agg m=>Kh l m
 | .tup l,.tup m=>Kh l m
 | _,_=>false
def Kh:List V->List V->Bool
 | [],[]=>true
 | a::l,b::m=>V.beq a b&&Kh l m
 | _,_=>false
end
def FA (pl:List DP) (j:Nat) (ks more:List Nat):Bool:=
 more.all (fun k=>!((pl.getD j ⟨0,[]⟩).anc.testBit k))&&ks.all (fun k=>!((pl.getD k ⟨0,[]⟩).anc.testBit j))
def FE (E:EB) (n0 n:Nat) (pl:List DP) (am:Nat) (j:Nat) (op:Eb) (em:B6) (v:V):List (EB)->List Nat->List Nat->Bool
 | [],_,_=>true
 | h::ss,ks,more=>
  (!FA pl j ks more || (match Cf E op em ⟨0,CS n0 n (DQ (pl.getD j ⟨0,[]⟩).anc am) h⟩with
   | some u=>V.beq u v
   | none=>false)) &&
  (match ks with
   | []=>true
   | k::ks'=>FE E n0 n pl am j op em v ss ks' (k::more))
def AT (E:EB) (D:Ai) (ops:List BO) (pl:List DP) (e:B6) (U:H):Option (B6 × H):=
 match CX E D U.next ops.length 0 ops pl ⟨e,U.next+ops.length,[U.bl],[],0,[]⟩with
 | none=>none
 | some s=>
  if s.ls.all (fun(j,op,em,v)=>FE E U.next ops.length pl s.am j op em v s.ss s.ks [])then
   match s.ss with
   | h::_=>some (s.e,⟨s.nx,CS U.next ops.length (fun k=>s.am.testBit k) h⟩)
   | []=>none
  else none
def Eu:Value->V
 | .bool b => .bool b
 | .int k n => .int k n
 | .string s => .str (BS.ofList s.data.toList)
 | .pointer none => .nilp
 | .slice none 0 0 => .nils
 | .map none => .nilm
 | .nilFunc => .nilf
 | .nilIface => .nili
 | _ => .dead
def eg:Value->V
 | .agg cs=>if(cs.toList.map Eu).all V.live then .agg (cs.toList.map Eu)else .dead
 | v=>Eu v
def jx (v:Value):Option (List V):=if(v.cells.toList.map Eu).all V.live then some (v.cells.toList.map Eu)else none
def Al (G:Nat->Bool):Operand->AO
 | .tmp t => .tmp t
 | .const v => .con (eg v)
 | .global g=>if G g then .con (.ptr g 0)else .con .dead
 | .func f => .con (.fn f [] [])
def Gj (P:Program) (t:TypeId):Option (Option Nat):=
 match P.underlying t,P.info? t with
 | some (.struct _),some i=>some (some i.size)
 | some (.array _ _),some i=>some (some i.size)
 | some _,some _=>some none
 | _,_=>none
def GH (P:Program) (t:TypeId):Option Nat:=(P.info? t).map (·.size)
def Jg (P:Program) (t:TypeId):Option (List V):=
 match P.info? t with
 | some i=>match i.zero with
  | some z=>jx z
  | none=>none
 | none=>none
def MB:Operand->Bool
 | .const _=>true
 | _=>false
def G3 (P:Program):List Field->Option (List (Nat × FK))
 | []=>some []
 | f::fs=>match f.name == "_",G3 P fs with
  | true,r=>r
  | false,some r=>match P.underlying f.type with
   | some (.int _)=>some ((f.offset,.int)::r)
   | some .bool=>some ((f.offset,.bool)::r)
   | some .string=>some ((f.offset,.str)::r)
   | _=>none
  | false,none=>none
def FN (P:Program) (t:TypeId) (fs:List Field):Fp:=
 match P.stoodInHeld t || P.eqGuardType P.depth t,G3 P fs with
 | false,some l => .flat l
 | _,_ => .none
def QU (P:Program) (t:TypeId):Fp:=
 match P.underlying t with
 | some (.struct fs)=>FN P t fs.toList
 | _ => .none
def OQ (P:Program) (t:TypeId):V:=
 match P.info? t with
 | some i=>match i.zero with
  | some z=>eg z
  | none => .dead
 | none => .dead
def di (P:Program) (op:BinOp) (t:TypeId) (x y:Operand):Fp:=
 match op with
 | .eql | .neq=>
  match P.underlying t with
  | some .bool => .bool
  | some (.struct fs)=>FN P t fs.toList
  | some (.pointer _) => .ptr
  | some (.slice _) => .slice
  | some (.map _ _) => .map
  | some (.func _ _ _) => .func
  | some (.interface _) => .iface (MB x || MB y)
  | _ => .none
 | _ => .none
def rY (P:Program) (s d:TypeId):AIU:=
 match P.underlying s,P.underlying d with
 | some _,some (.int k) => .toInt k
 | some .string,some .string => .same
 | some .string,some (.slice e)=>match P.underlying e with
  | some (.int .u8) => .toBytes e
  | _ => .bad
 | some (.slice e),some .string=>match P.underlying e with
  | some (.int .u8) => .toStr
  | _ => .bad
 | _,_ => .bad
def JB (P:Program) (f:FuncId):Bool:=
 match P.funcs[f]? with
 | some fn=>fn.name != "runtime.NumGoroutine" && fn.body.isSome
 | none=>false
def AD0:TypeDesc->Bool
 | .string=>true
 | .slice _=>true
 | _=>false
def Kn (P:Program) (G:Nat->Bool) (b:Builtin) (ts:Array TypeId) (args:Array Operand):Eb:=
 match b,ts.toList,args.toList with
 | .len,[t],[x]=>match P.underlying t with
  | some .string => .len true (Al G x)
  | some (.slice _) => .len false (Al G x)
  | some (.array n _) => .lenC n
  | some (.pointer a)=>match P.underlying a with
   | some (.array n _) => .lenC n
   | _ => .bad
  | _ => .bad
 | .cap,[t],[x]=>match P.underlying t with
  | some (.slice _) => .cap (Al G x)
  | _ => .bad
 | .append,[t,u],[s,x]=>match P.underlying t,P.underlying u with
  | some (.slice e),some du=>match P.info? e with
   | some i=>match i.zero with
    | some z=>if !(AD0 du) || i.size==0 || z.cells.size != i.size then .bad else .append e i.size i.bytes (Al G s) (Al G x)
    | none => .bad
   | none => .bad
  | _,_ => .bad
 | .copy,[t,u],[d,s]=>match P.underlying t,P.underlying u with
  | some (.slice e),some _=>match P.info? e with
   | some i => .copy i.size (Al G d) (Al G s)
   | none => .bad
  | _,_ => .bad
 | .min,_,x::l => .min (Al G x) (l.map (Al G))
 | .max,_,x::l => .max (Al G x) (l.map (Al G))
 | _,_,_ => .bad
def LM (P:Program):List Field->Option (List (Nat × Nat))
 | []=>some []
 | f::l=>match P.info? f.type,LM P l with
  | some i,some r=>some ((f.offset,i.size)::r)
  | _,_=>none
def EW (G:Nat->Bool) (place:Nat->Option (Nat × Nat)):List (Nat × Operand)->Option (List (Nat × Nat × AO))
 | []=>some []
 | (i,x)::l=>match place i,EW G place l with
  | some (o,s),some r=>some ((o,s,Al G x)::r)
  | _,_=>none
def Ad (P:Program) (G:Nat->Bool) (op:Op):Eb:=
 match op with
 | .move x | .assign x => .mov (Al G x)
 | .pick c a b => .pick (Al G c) (Al G a) (Al G b)
 | .alloc el=>match Jg P el with
  | some [] => .alloc0 el
  | some z => .alloc el z
  | none => .bad
 | .box el x=>match Jg P el with
  | some [] => .box0 el (Al G x)
  | _ => .box el (Al G x)
 | .build t ps=>
  match P.underlying t,Jg P t with
  | some (.struct fs),some z=>match LM P fs.toList with
   | some pl=>match EW G (pl[·]?) ps.toList with
    | some l => .build z l
    | none => .bad
   | none => .bad
  | some (.array _ el),some z=>match GH P el with
   | some s=>match EW G (fun i=>some (i*s,s)) ps.toList with
    | some l => .build z l
    | none => .bad
   | none => .bad
  | _,_ => .bad
 | .buildSlice t n ps=>
  match P.underlying t with
  | some (.slice el)=>match GH P el,Jg P el with
   | some s,some z=>match EW G (fun i=>some (i*s,s)) ps.toList with
    | some l=>if n*s > 2 ^ 24 || z.length != s then .bad else .buildSlice el n (As n z).flatten l
    | none => .bad
   | _,_ => .bad
  | _ => .bad
 | .load t x=>match Gj P t with
  | some (some 0) => .load0 (Al G x)
  | some s => .load s (Al G x)
  | none => .bad
 | .store t x v=>match GH P t with
  | some 0 => .store0 (Al G x) (Al G v)
  | some n => .store n (Al G x) (Al G v)
  | none => .bad
 | .nilCheck x => .nilck (Al G x)
 | .binOp o t x y _ => .bin o (di P o t x y) (Al G x) (Al G y)
 | .unOp o _ x => .un o (Al G x)
 | .convert s d x => .conv (rY P s d) (Al G x)
 | .makeInterface t x=>match P.underlying t with
  | some (.interface _) => .bad
  | some _ => .mkifc t (Al G x)
  | none => .bad
 | .makeFunc (.func f) a c => .mkfn f (a.toList.map (Al G)) (c.toList.map (Al G))
 | .makeSlice t l c=>match P.underlying t with
  | some (.slice el)=>match P.info? el,Jg P el with
   | some i,some z=>if z.length != i.size then .bad else .mkslice el i.size i.bytes z (Al G l) (Al G c)
   | _,_ => .bad
  | _ => .bad
 | .slice t x lo hi mx=>if mx.isSome && !hi.isSome then .bad else match P.underlying t with
  | some .string=>match mx with
   | none => .sliceStr (Al G x) (lo.map (Al G)) (hi.map (Al G))
   | some _ => .bad
  | some (.slice el)=>match GH P el with
   | some s => .sliceSl s (Al G x) (lo.map (Al G)) (hi.map (Al G)) (mx.map (Al G))
   | none => .bad
  | some (.array n el)=>match GH P el with
   | some s => .sliceArr n s (Al G x) (lo.map (Al G)) (hi.map (Al G)) (mx.map (Al G))
   | none => .bad
  | _ => .bad
 | .fieldAddr s x f=>match P.underlying s with
  | some (.struct fs)=>match fs[f]? with
   | some fd=>match GH P fd.type with
    | some 0=>if fd.offset==0&&fd.byteOffset==0&&P.cellsOf s==0 then .faddr0 s (Al G x)else .bad
    | some _ => .faddr fd.offset (Al G x)
    | none => .bad
   | none => .bad
  | _ => .bad
 | .field s x f=>match P.underlying s with
  | some (.struct fs)=>match fs[f]? with
   | some fd=>match Gj P fd.type with
    | some n => .field fd.offset n (Al G x)
    | none => .bad
   | none => .bad
  | _ => .bad
 | .indexAddr t x i=>match P.underlying t with
  | some (.slice el)=>match GH P el with
   | some s => .iaddrS s (Al G x) (Al G i)
   | none => .bad
  | some (.array n el)=>match GH P el with
   | some s => .iaddrA n s (Al G x) (Al G i)
   | none => .bad
  | _ => .bad
 | .index t x i=>match P.underlying t with
  | some .string => .idxStr (Al G x) (Al G i)
  | some (.array n el)=>match GH P el,Gj P el with
   | some z,some s => .idxArr n z s (Al G x) (Al G i)
   | _,_ => .bad
  | _ => .bad
 | .extract x i => .extract i (Al G x)
 | .makeMap _ none => .mkmap
 | .lookup t m x true=>match P.underlying t with
  | some (.map k el) => .lookup (QU P k) (OQ P el) (Al G m) (Al G x)
  | _ => .bad
 | .mapUpdate t m k v=>match P.underlying t with
  | some (.map kt _) => .mapset (QU P kt) (Al G m) (Al G k) (Al G v)
  | _ => .bad
 | .call c=>match c.callee with
  | .builtin b=>Kn P G b c.argTypes c.args
  | .value (.func f) => .call f (c.args.toList.map (Al G))
  | .value (.tmp t) => .callv (.tmp t) (c.args.toList.map (Al G))
  | _ => .bad
 | _ => .bad
def PG (ops:Array Oper) (g:Option (Nat × Bool)):Option (Option (Nat × Bool)):=
 match g with
 | none=>some none
 | some (j,b)=>match (ops[j]?).bind (·.dst)with
  | some t=>some (some (t,b))
  | none=>none
def GJ (nt:Nat):Option Nat->Bool
 | some d=>B2 d nt
 | none=>true
def BK (P:Program) (G:Nat->Bool) (nt:Nat) (ops:Array Oper) (o:Oper):BO:=
 match PG ops o.guard,GJ nt o.dst with
 | some g,true=>⟨o.dst,Ad P G o.op,g⟩
 | _,_=>⟨o.dst,.bad,none⟩
def qd (ops:Array Oper) (o:Oper):List Nat:=
 (o.op.operands.toList.filterMap fun | .tmp t=>some t | _=>none) ++
 (match o.guard with
  | some (g,_)=>((ops[g]?).bind (·.dst)).toList
  | none=>[])
def GS (ops:Array Oper):List DP:=(ops.toList.zip (Region.before ops).toList).map fun(o,m)=>⟨m,qd ops o⟩
def XA:Nat->(Nat->Bool)->Bool
 | 0,_=>true
 | n+1,p=>p n&&XA n p
def Gw (pl:List DP) (i:Nat):Nat:=(pl.getD i ⟨0,[]⟩).anc
def Ok (ops:Array Oper) (l:List BO) (pl:List DP):Bool:=
 Ak pl.length ops.size &&
 XA ops.size fun i=>
  match ops[i]?,l[i]?,pl[i]? with
  | some o,some ao,some p=>
   o.after.toList.all (fun e=>!Region.binds .any e || B2 e.on i) &&
   XA ops.size fun k=>
    (!p.anc.testBit k || o.after.toList.any (fun e=>Region.binds .any e&&(Ak e.on k || (Gw pl e.on).testBit k))) &&
    (Ak i k || match ops[k]?,l[k]?,pl[k]? with
     | some o',some ao',some p'=>
      (match o.dst with
       | none=>true
       | some t=>(match o'.dst with | some t'=>!Ak t t' | none=>true)&&(!Bn p'.looks t || p'.anc.testBit i || p.anc.testBit k)) &&
      (match ao.op.cls,ao'.op.cls with
       | .k,.k=>!B2 i k || p'.anc.testBit i
       | _,_=>true)
     | _,_,_=>false)
  | _,_,_=>false
def CV (P:Program) (G:Nat->Bool) (nt:Nat):Code->AC
 | .skip => .skip
 | .region _ ops false => .region (ops.toList.map (BK P G nt ops))
 | .region _ ops true=>if Ok ops (ops.toList.map (BK P G nt ops)) (GS ops)then .draw (ops.toList.map (BK P G nt ops)) (GS ops)else .bad
 | .seq a b => .seq (CV P G nt a) (CV P G nt b)
 | .cond c a b => .cond (Al G c) (CV P G nt a) (CV P G nt b)
 | .block id c => .block id (CV P G nt c)
 | .loop c => .loop (CV P G nt c)
 | .exit id => .exit id
 | .ret => .ret
 | _ => .bad
def PF (P:Program):ResultVar->Option AR
 | .tmp t=>some (.tmp t)
 | .cell t ty=>match Gj P ty with
  | some s=>some (.cell t s)
  | none=>none
def Gc (P:Program):List ResultVar->Option (List AR)
 | []=>some []
 | r::l=>match PF P r,Gc P l with
  | some a,some m=>some (a::m)
  | _,_=>none
def MO (P:Program) (G:Nat->Bool) (fn:Func):Option fL:=
 match fn.body,Gc P fn.results.toList with
 | some c,some r=>some ⟨fn.ntmps,r,[],CV P G fn.ntmps c⟩
 | _,_=>none
def AC.strip:AC->AC
 | .seq a b => .seq a.strip b.strip
 | .cond c a b => .cond c a.strip b.strip
 | .block id c => .block id c.strip
 | .loop c => .loop c.strip
 | .keep _ c=>c.strip
 | c=>c
def fL.strip (f:fL):fL:=⟨f.ntmps,f.results,[],f.body.strip⟩
structure B7 (R:Cz) (e:B6) (tmps:Array Value):Prop where
 at_:∀(k:Nat) (v:V),look e k=some v->v = .dead\/∃x,tmps[k]? = some x/\Ao R v=some x
theorem B7.mono {R R':Cz} {e:B6} {tmps:Array Value} (h:B7 R e tmps) (hle:Le R R'):B7 R' e tmps:=
 ⟨fun k v hk=>(h.at_ k v hk).imp id fun⟨x,h1,h2⟩=>⟨x,h1,Cr hle v x h2⟩⟩
theorem B7.get {R:Cz} {e:B6} {tmps:Array Value} (h:B7 R e tmps) {t:Nat} {v:V} (hv:Ga e t=v) (hl:v.live=true):∃x,tmps[t]? = some x/\Ao R v=some x:=by
 unfold Ga at hv
 cases ht:look e t with
 | none=>rw[ht]at hv;subst hv;cases hl
 | some u=>
  rw[ht]at hv
  simp only at hv
  subst hv
  rcases h.at_ t _ ht with rfl|h
  ·cases hl
  ·exact h
def Dz (G:Nat->Bool) (R:Cz):Prop:=∀g,G g=true->∃i,R g=some i/\i.blk=g/\i.shift=0
theorem PO (R:Cz) (x:Value) (h:(Eu x).live=true):Ao R (Eu x)=some x:=by
 unfold Eu at h ⊢
 split at h<;>first | rfl | (simp only[Ao,BS.toList_ofList];done) | (cases h;done)
theorem J5 (R:Cz):∀(l:List Value),(l.map Eu).all V.live=true->A1 R (l.map Eu)=some l
 | [],_=>rfl
 | x::l,h=>by
  simp only[B3,Jf,AG]at h
  exact Be.2 ⟨x,l,PO R x h.1,J5 R l h.2,rfl⟩
theorem ZB (R:Cz) (x:Value) (h:(eg x).live=true):Ao R (eg x)=some x:=by
 cases x with
 | agg cs=>
  simp only[eg]at h ⊢
  by_cases hl:(cs.toList.map Eu).all V.live=true
  ·rw[if_pos hl];rw[Dn (J5 R _ hl)]
  ·rw[if_neg hl]at h;cases h
 | _=>simp only[eg]at h ⊢;exact PO R _ h
theorem ZA (R:Cz) {x:Value} {l:List V} (h:jx x=some l):A1 R l=some x.cells.toList:=by
 unfold jx at h
 split at h
 ·cases h;exact J5 R _ ‹_›
 ·cases h
section
variable {G:Nat->Bool} {R:Cz} {e:B6} {a:Act}
theorem ev (he:B7 R e a.tmps) (hg:Dz G R) {o:Operand} {v:V} (h:CP e (Al G o)=v) (hl:v.live=true):Ao R v=some (a.eval o):=by
 subst h
 cases o with
 | tmp t=>
  simp only[Al,CP]at hl ⊢
  obtain⟨x,hx,hc⟩:=he.get rfl hl
  simp only[hc,Act.eval,EO,hx,Option.getD_some]
 | const x=>exact ZB R x hl
 | global g=>
  simp only[Al]at hl ⊢
  by_cases hG:G g=true
  ·rw[if_pos hG]
   obtain⟨i,hi,hb,hs⟩:=hg g hG
   simp[CP,Ao,hi,hb,hs,Act.eval]
  ·rw[if_neg hG]at hl;cases hl
 | func f=>simp[Al,CP,Ao,A1,Act.eval]
theorem IG (he:B7 R e a.tmps) (hg:Dz G R) {o:Operand} {b off:Nat} (h:CP e (Al G o) = .ptr b off) :
  ∃i,R b=some i/\a.eval o = .pointer (some ⟨i.blk,i.shift+off,none⟩):=by
 have:=ev he hg h rfl
 simp only[Ao,Aa]at this
 obtain⟨i,hi,hx⟩:=this
 exact⟨i,hi,hx.symm⟩
theorem Fy (he:B7 R e a.tmps) (hg:Dz G R) {o:Operand} {k:IntKind} {n:Int} (h:CP e (Al G o) = .int k n):a.eval o = .int k n:=by
 have:=ev he hg h rfl
 simp only[Ao,AQ.injEq]at this
 exact this.symm
theorem KV (he:B7 R e a.tmps) (hg:Dz G R) {o:Operand} {n:Bool} (h:CP e (Al G o) = .bool n):a.eval o = .bool n:=by
 have:=ev he hg h rfl
 simp only[Ao,AQ.injEq]at this
 exact this.symm
theorem LW (he:B7 R e a.tmps) (hg:Dz G R) {o:Operand} {l:BS} (h:CP e (Al G o) = .str l):a.eval o = .string ⟨l.toList.toArray⟩:=by
 have:=ev he hg h rfl
 simp only[Ao,AQ.injEq]at this
 exact this.symm
theorem Sd (he:B7 R e a.tmps) (hg:Dz G R) {o:Operand} {l:List V} (h:CP e (Al G o) = .agg l):∃x,A1 R l=some x/\a.eval o = .agg x.toArray:=by
 exact Hp (ev he hg h rfl)
theorem xr (he:B7 R e a.tmps) (hg:Dz G R) {o:Operand} {l:List V} (h:CP e (Al G o) = .tup l):∃x,A1 R l=some x/\a.eval o = .tuple x.toArray:=by
 exact VI (ev he hg h rfl)
theorem evs (he:B7 R e a.tmps) (hg:Dz G R):∀(l:List Operand),(Fo e (l.map (Al G))).all V.live=true->A1 R (Fo e (l.map (Al G)))=some (l.map a.eval)
 | [],_=>rfl
 | o::l,h=>by
  simp only[Fo,B3,Jf,AG]at h
  exact Be.2 ⟨_,_,ev he hg rfl h.1,evs he hg l (by simpa[Fo]using h.2),rfl⟩
end
theorem Hd:∀(l:List V) (n:Nat) (cs:List V),(FC l n cs).length=l.length
 | l,n,[]=>by cases l<;>simp[FC]
 | [],n,c::cs=>by simp[FC]
 | _::l,0,c::cs=>by simp[FC,Hd l 0 cs]
 | _::l,n+1,c::cs=>by simp[FC,Hd l n (c::cs)]
theorem Lz:∀(l:List V) (n:Nat) (cs:List V) (k:Nat),(FC l n cs)[k]? = if n<=k/\k<n+cs.length then(if k<l.length then cs[k-n]? else none)else l[k]?
 | l,n,[],k=>by cases l<;>simp[FC]<;>omega
 | [],n,c::cs,k=>by simp[FC]
 | b::l,0,c::cs,k=>by
  cases k with
  | zero=>simp[FC]
  | succ k=>simp only[FC,Bb,Lz l 0 cs k,DZ,true_and,AN,BA,Tu,AOP]
 | b::l,n+1,c::cs,k=>by
  cases k with
  | zero=>simp[FC]
  | succ k=>
   simp only[FC,Bb,Lz l n (c::cs) k,AN,Nat.add_le_add_iff_right,AOP,Nat.add_sub_add_right]
   by_cases h:n<=k/\k<n+(cs.length+1)
   ·rw[if_pos h,if_pos (show n<=k/\k+1<n+1+(cs.length+1)by omega)]
   ·rw[if_neg h,if_neg (show ¬(n<=k/\k+1<n+1+(cs.length+1))by omega)]
theorem Qw (off:Nat):∀(vs:List Value) (cs:Array Value) (i:Nat),
  ((vs.zipIdx i).foldl (fun cs (x:Value × Nat)=>cs.setIfInBounds (off+x.2) x.1) cs).size=cs.size /\
  ∀k,((vs.zipIdx i).foldl (fun cs (x:Value × Nat)=>cs.setIfInBounds (off+x.2) x.1) cs)[k]? =
   if off+i<=k/\k<off+i+vs.length/\k<cs.size then vs[k-(off+i)]? else cs[k]?
 | [],cs,i=>by
  refine⟨rfl,fun k=>?_⟩
  rw[if_neg (by simp;omega)]
  rfl
 | v::vs,cs,i=>by
  obtain⟨h1,h2⟩:=Qw off vs (cs.setIfInBounds (off+i) v) (i+1)
  simp only[List.zipIdx_cons,List.foldl_cons]
  refine⟨by rw[h1,D4],fun k=>?_⟩
  rw[h2,D4,A2]
  by_cases hk:off+i=k
  ·subst hk
   rw[if_neg (by omega),if_pos rfl]
   by_cases hs:off+i<cs.size
   ·rw[if_pos hs,if_pos (by simp;omega)];simp
   ·rw[if_neg hs,if_neg (by omega),CH (by omega)]
  ·rw[if_neg hk]
   by_cases hc:off+(i+1)<=k/\k<off+(i+1)+vs.length/\k<cs.size
   ·rw[if_pos hc,if_pos (by simp;omega)]
    have:k-(off+i)=(k-(off+(i+1)))+1:=by omega
    rw[this,Bb]
   ·rw[if_neg hc,if_neg (by simp only[AN];omega)]
theorem eN {R:Cz} {z:List V} {arr:Array Value} (hz:A1 R z=some arr.toList) {v:V} {x:Value} (hv:Ao R v=some x) {off:Nat}
  (hle:off+v.cells.length<=z.length) :
  A1 R (FC z off v.cells)=some ((x.cells.zipIdx).foldl (fun cs (c,j)=>cs.setIfInBounds (off+j) c) arr).toList:=by
 have hcs:=Ho hv
 have hlen:=Bh hcs
 have hzl:=Bh hz
 have hf:(x.cells.zipIdx).foldl (fun cs (c,j)=>cs.setIfInBounds (off+j) c) arr=((x.cells.toList.zipIdx 0).foldl (fun cs (y:Value × Nat)=>cs.setIfInBounds (off+y.2) y.1) arr):=by
  rw[<-Array.foldl_toList,Array.toList_zipIdx]
 rw[hf]
 obtain⟨h1,h2⟩:=Qw off x.cells.toList arr 0
 refine MM ?_ ?_
 ·rw[Hd,Eg,h1];simpa using hzl
 ·intro k u hk
  rw[Lz]at hk
  rw[WX,h2]
  simp only[JH]
  simp only[Eg]at hlen hzl
  by_cases hc:off<=k/\k<off+v.cells.length
  ·rw[if_pos hc,if_pos (by omega)]at hk
   obtain⟨b,hb,hx⟩:=EU hcs hk
   refine⟨b,hb,?_⟩
   rw[if_pos (by simp only[Eg];omega)]
   exact hx
  ·rw[if_neg hc]at hk
   obtain⟨b,hb,hx⟩:=EU hz hk
   refine⟨b,hb,?_⟩
   rw[if_neg (by simp only[Eg];omega)]
   simpa using hx
section
variable {G:Nat->Bool} {R:Cz} {e:B6} {a:Act}
theorem OE (he:B7 R e a.tmps) (hg:Dz G R) {place:Nat->Option (Nat × Nat)}:∀(ps:List (Nat × Operand)) (l:List (Nat × Nat × AO)) (z r:List V) (arr:Array Value),
  EW G place ps=some l->A1 R z=some arr.toList->Ez (Js e l) z=some r ->
  ∃out,Instr.fill place arr (ps.map fun(i,x)=>(i,a.eval x))=some out/\A1 R r=some out.toList/\r.length=z.length
 | [],l,z,r,arr,hc,hz,hf=>by
  simp only[EW,AQ.injEq]at hc;subst hc
  simp only[Js,HJ,Ez,AQ.injEq]at hf;subst hf
  exact⟨arr,rfl,hz,rfl⟩
 | (i,x)::ps,l,z,r,arr,hc,hz,hf=>by
  simp only[EW]at hc
  cases hp:place i with
  | none=>rw[hp]at hc;cases hc
  | some os=>
   obtain⟨off,size⟩:=os
   rw[hp]at hc
   cases hr:EW G place ps with
   | none=>rw[hr]at hc;cases hc
   | some l'=>
    rw[hr]at hc
    simp only[AQ.injEq]at hc;subst hc
    simp only[Js,B3,Ez]at hf
    split at hf
    ·rename_i hcond
     simp only[AG,AU,Ac]at hcond
     obtain⟨⟨hl,hs⟩,hb⟩:=hcond
     have hv:=ev (a:=a) he hg rfl hl
     have hcs:=Ho hv
     have hlen:=Bh hcs
     have hzl:=Bh hz
     simp only[Eg]at hlen hzl
     obtain⟨out,h1,h2,h3⟩:=OE he hg ps l' _ r _ hr (eN hz hv (off:=off) (by omega)) hf
     refine⟨out,?_,h2,by rw[h3,Hd]⟩
     simp only[B3,Instr.fill,hp]
     rw[if_neg (by simp;omega)]
     exact h1
    ·cases hf
end
end Go.Og
set_option linter.unusedSimpArgs false
namespace Go.Og
variable {P:Program} {G:Nat->Bool} {R:Cz} {e:B6} {a:Act}
theorem ES {t:TypeId} {n:Nat} (h:GH P t=some n) (w:World):(sizeOf t).run P w = .ok n w:=by
 simp only[GH,Aa]at h
 obtain⟨i,hi,rfl⟩:=h
 simp[sizeOf,typeInfo,hi]
theorem GQ {t:TypeId} {l:List V} (h:Jg P t=some l) (w:World):∃z,(zeroValue t).run P w = .ok z w/\A1 R l=some z.cells.toList:=by
 unfold Jg at h
 cases hi:P.info? t with
 | none=>rw[hi]at h;cases h
 | some i=>
  rw[hi]at h
  cases hz:i.zero with
  | none=>simp only[hz]at h;cases h
  | some z=>
   simp only[hz]at h
   exact⟨z,by simp[zeroValue,typeInfo,hi,hz],ZA R h⟩
theorem KK {t:TypeId} {s:Option Nat} (h:Gj P t=some s) (w:World) :
  (isAgg t).run P w = .ok s.isSome w/\∀n,s=some n->(sizeOf t).run P w = .ok n w:=by
 unfold Gj at h
 cases hu:P.underlying t with
 | none=>rw[hu]at h;cases h
 | some d=>
  cases hi:P.info? t with
  | none=>rw[hu,hi]at h;cases d<;>cases h
  | some i=>
   rw[hu,hi]at h
   cases d<;>(simp only[AQ.injEq]at h;subst h;simp[isAgg,run_underlying hu,sizeOf,typeInfo,hi])
theorem Qj:∀{fs:List Field} {pl:List (Nat × Nat)} (w:World),LM P fs=some pl ->
  (fs.mapM (m:=Sem) fun f=>do pure (f.offset,<-sizeOf f.type)).run P w = .ok pl w
 | [],pl,w,h=>by simp only[LM,AQ.injEq]at h;subst h;rfl
 | f::fs,pl,w,h=>by
  simp only[LM]at h
  cases hi:P.info? f.type with
  | none=>rw[hi]at h;cases h
  | some i=>
   rw[hi]at h
   cases hr:LM P fs with
   | none=>rw[hr]at h;cases h
   | some r=>
    rw[hr]at h;simp only[AQ.injEq]at h;subst h
    have ih:=Qj w hr
    rw[Tw]
    simp only[Sem.run_bind,sizeOf,typeInfo,run_program,hi,Result.andThen_ok,Sem.run_pure]
    simp only[sizeOf,typeInfo,Sem.run_bind]at ih
    rw[ih]
    rfl
theorem Ft (op:BinOp) (t:TypeId) (x y:Operand) (u v:Value) (w:World)
  (h:∀z,(u = .agg z->False)) (h':u = .nilIface->v = .nilIface->False):(eqGuard op t x y u v).run P w = .ok () w:=by
 cases u with
 | agg z=>exact(h z rfl).elim
 | nilIface=>
  cases v with
  | nilIface=>exact(h' rfl rfl).elim
  | _=>cases op<;>rfl
 | _=>cases op<;>rfl
theorem dU {op:BinOp} {x y:Int} {b:Bool} (h:Sf op x y=some b) (w:World):(Op.intCmp op x y).run P w = .ok (.bool b) w:=by
 unfold Sf at h
 split at h<;>first | (cases h;rfl) | (cases h)
theorem jf {op:BinOp} {t:Fp} {k k':IntKind} {x y:Int} {v:V} (h:G5 op t (.int k x) (.int k' y)=some v) (ty:TypeId) (w:World) :
    ∃r,Ao R v=some r/\(binOp op ty (.int k x) (.int k' y)).run P w = .ok r w:=by
  cases op
  case shl=>
    simp only[G5,Aa]at h
    obtain⟨n,hn,rfl⟩:=h
    refine⟨_,rfl,?_⟩
    simp only[Oh]at hn
    split at hn
    · cases hn
    · cases hn
      simp only[binOp,Op.shift]
      rw[if_neg (by omega)]
      rfl
  case shr=>
    simp only[G5,Aa]at h
    obtain⟨n,hn,rfl⟩:=h
    refine⟨_,rfl,?_⟩
    simp only[Oh]at hn
    split at hn
    · cases hn
    · cases hn
      simp only[binOp,Op.shift]
      rw[if_neg (by omega)]
      rfl
  all_goals
    simp only[G5]at h
    split at h
    · rename_i hk
      subst hk
      simp only[Aa]at h
      obtain⟨n,hn,rfl⟩:=h
      refine⟨_,rfl,?_⟩
      simp only[binOp,ne_eq,not_true_eq_false,if_false]
      first
        | exact dU hn w
        | (simp only[Y7]at hn
           first
             | (cases hn;rfl)
             | (split at hn
                · cases hn
                · rename_i h0
                  cases hn
                  simp only[Op.intDiv]
                  rw[if_neg h0]
                  rfl))
    · cases h
theorem je {op:BinOp} {t:Fp} {a b:BS} {v:V} (h:G5 op t (.str a) (.str b)=some v) (ty:TypeId) (w:World) :
  ∃r,Ao R v=some r/\(binOp op ty (.string ⟨a.toList.toArray⟩) (.string ⟨b.toList.toArray⟩)).run P w = .ok r w:=by
 have hq:a.beq b=(a.toList==b.toList):=by rw[BS.beq_eq];by_cases h:a.toList=b.toList<;>simp[h]
 have hca:=BS.toList_cat a b
 have hla:=BS.length_toList a
 have hlb:=BS.length_toList b
 simp only[G5]at h
 cases op<;>simp only[UF,hq]at h
 all_goals
  generalize hx0:a.toList=x at *
  generalize hy0:b.toList=y at *
  have hx:(ByteArray.mk x.toArray).toList=x:=by rw[ByteArray.toList_eq]
  have hy:(ByteArray.mk y.toArray).toList=y:=by rw[ByteArray.toList_eq]
 case add=>
  split at h
  ·rename_i hl
   cases h
   refine⟨_,rfl,?_⟩
   rw[hca]
   simp only[Ac,QK]at hl
   have h1:(ByteArray.mk x.toArray).size=x.length:=by simp[ByteArray.size]
   have h2:(ByteArray.mk y.toArray).size=y.length:=by simp[ByteArray.size]
   simp only[binOp,Op.stringOp,h1,h2]
   rw[if_neg (by simp[IntKind.max,IntKind.signed,IntKind.bits];omega)]
   have h3:(ByteArray.mk x.toArray)++(ByteArray.mk y.toArray)=⟨(x++y).toArray⟩:=by
    apply ByteArray.ext
    simp[ByteArray.data_append]
   rw[h3]
   rfl
  ·cases h
 all_goals first
  | (cases h;refine⟨_,rfl,?_⟩;simp only[binOp,Op.stringOp,hx,hy];rfl)
  | cases h
theorem I9 {b off:Nat} {x:Value} (h:Ao R (.ptr b off)=some x):∃i,R b=some i/\x = .pointer (some ⟨i.blk,i.shift+off,none⟩):=by
 simp only[Ao,Aa]at h
 obtain⟨i,hi,hx⟩:=h
 exact⟨i,hi,hx.symm⟩
theorem DG {b off n:Nat} {c:Ri} {x:Value} (h:Ao R (.sl b off n c)=some x) :
  ∃i m,R b=some i/\x = .slice (some ⟨i.blk,i.shift+off,none⟩) n m/\(∀k,c = .ex k->m=k)/\(∀k,c = .op k->m=i.cap k off/\n<=m):=by
 cases c with
 | ex k=>
  simp only[Ao,Aa]at h
  obtain⟨i,hi,hx⟩:=h
  exact⟨i,k,hi,hx.symm,fun _ e=>by cases e;rfl,fun _ e=>by cases e⟩
 | op k=>
  simp only[Ao,AV]at h
  obtain⟨i,hi,hx⟩:=h
  by_cases hc:n<=i.cap k off
  ·rw[if_pos hc]at hx;cases hx
   exact⟨i,_,hi,rfl,(fun _ e=>by cases e),(fun _ e=>by cases e;exact⟨rfl,hc⟩)⟩
  ·rw[if_neg hc]at hx;cases hx
theorem Ef {b off k z:Nat} {x:Value} (h:Ao R (.sle b off k z)=some x) :
  ∃i,R b=some i/\k<=i.cap z off/\x = .slice (some (if i.cap z off=k then⟨i.blk,i.shift+off,none⟩else(⟨i.blk,i.shift+off,none⟩:Addr).add (k*z))) 0 (i.cap z off-k):=by
 simp only[Ao,AV]at h
 obtain⟨i,hi,hx⟩:=h
 by_cases hc:k<=i.cap z off
 ·rw[if_pos hc]at hx;cases hx;exact⟨i,hi,hc,rfl⟩
 ·rw[if_neg hc]at hx;cases hx
theorem MN {t:TypeId} {v:V} {x:Value} (h:Ao R (.ifc t v)=some x):∃y,Ao R v=some y/\x = .iface t y:=by
 simp only[Ao]at h
 cases hv:Ao R v with
 | none=>rw[hv]at h;cases h
 | some y=>rw[hv]at h;cases h;exact⟨y,rfl,rfl⟩
theorem H5 {b:Nat} {x:Value} (h:Ao R (.mp b)=some x):∃i,R b=some i/\x = .map (some i.blk):=by
 simp only[Ao,Aa]at h
 obtain⟨i,hi,hx⟩:=h
 exact⟨i,hi,hx.symm⟩
theorem J4 {f:FuncId} {l m:List V} {x:Value} (h:Ao R (.fn f l m)=some x):∃y z,A1 R l=some y/\A1 R m=some z/\x = .func (.func f) y.toArray z.toArray:=by
 simp only[Ao]at h
 cases hl:A1 R l with
 | none=>simp only[hl]at h;cases h
 | some y=>
  cases hm:A1 R m with
  | none=>simp only[hl,hm]at h;cases h
  | some z=>simp only[hl,hm]at h;cases h;exact⟨y,z,rfl,rfl,rfl⟩
theorem VA {t:TypeId} {u v:Value} {b:Bool} (w:World)
  (h:∀n,(Op.equalIn (n+1) t u v).run P w = .ok b w):(Op.equal t u v).run P w = .ok b w:=h 9999
theorem PJ:∀{xs:List V} {o:Nat} {v:V},JA xs o=v->v.live=true->xs[o]? = some v
 | [],_,v,h,hl=>by subst h;cases hl
 | a::l,0,v,h,_=>by subst h;rfl
 | a::l,n+1,v,h,hl=>by simpa using PJ (xs:=l) (o:=n) h hl
def iq:TypeDesc->FK->Bool
 | .int _,.int=>true
 | .bool,.bool=>true
 | .string,.str=>true
 | _,_=>false
theorem Mp {t:TypeId} {d:TypeDesc} {k:FK} (hu:P.underlying t=some d) (hd:iq d k=true)
  {xs:List V} {X:List Value} (hX:A1 R xs=some X) {o:Nat} {v:V} (hv:JA xs o=v) (hl:v.live=true) (w:World) :
  ∃x,Ao R v=some x/\(part t X.toArray o).run P w = .ok x w:=by
 obtain⟨x,hx,hg⟩:=EU hX (PJ hv hl)
 refine⟨x,hx,?_⟩
 have hg':X.toArray[o]? = some x:=by simpa using hg
 have ha:(isAgg t).run P w = .ok false w:=by
  cases d<;>first | (cases k<;>cases hd;done) | simp[isAgg,run_underlying hu]
 simp only[part,Sem.run_bind,ha,Result.andThen_ok,DE,if_false,hg',Sem.run_pure]
theorem dj {t:TypeId} {d:TypeDesc} {k:FK} (hu:P.underlying t=some d) (hk:iq d k=true)
  {u v:V} {b:Bool} (h:LX k u v=some b) {x y:Value} (hx:Ao R u=some x) (hy:Ao R v=some y) (n:Nat) (w:World):(Op.equalIn (n+1) t x y).run P w = .ok b w:=by
 unfold LX at h
 split at h<;>(try (cases h;done))<;>(cases hx;cases hy)<;>(cases d<;>first | (cases hk;done) | skip)
 ·split at h
  ·rename_i he
   simp only[AQ.injEq]at h;subst h;subst he
   rw[Se];simp[Op.equalIn,run_underlying hu]
  ·cases h
 ·simp only[AQ.injEq]at h;subst h
  simp[Op.equalIn,run_underlying hu]
 ·simp only[AQ.injEq]at h;subst h
  rename_i p q
  rw[run_equalIn_string w n t _ _ hu,ByteArray.toList_eq,ByteArray.toList_eq,BS.beq_eq]
  by_cases e:p.toList=q.toList<;>simp[e]
theorem NT {k:FK} {u v:V} {b:Bool} (h:LX k u v=some b):u.live=true/\v.live=true:=by
 unfold LX at h
 split at h<;>first | exact⟨rfl,rfl⟩ | cases h
theorem KW {xs ys:List V} {X Y:List Value} (hX:A1 R xs=some X) (hY:A1 R ys=some Y) (n:Nat) (w:World):∀{fs:List Field} {l:List (Nat × FK)} {b:Bool},
  G3 P fs=some l->G4 l xs ys=some b->(Op.eqFields (n+1) X.toArray Y.toArray fs).run P w = .ok b w
 | [],l,b,hl,h=>by
  simp only[G3,AQ.injEq]at hl;subst hl
  simp only[G4,AQ.injEq]at h;subst h
  rfl
 | f::fs,l,b,hl,h=>by
  simp only[G3]at hl
  by_cases hn:f.name = "_"
  ·have hb:(f.name == "_")=true:=by simp[hn]
   rw[hb]at hl
   simp only[Op.eqFields]
   rw[if_neg (by simp[hn])]
   exact KW hX hY n w hl h
  ·have hb:(f.name == "_")=false:=by simp[hn]
   rw[hb]at hl
   cases hr:G3 P fs with
   | none=>rw[hr]at hl;cases hl
   | some r=>
    rw[hr]at hl
    cases hu:P.underlying f.type with
    | none=>simp only[hu]at hl;cases hl
    | some d=>
     simp only[hu]at hl
     have hk:∃k,l=(f.offset,k)::r/\iq d k=true:=by
      cases d<;>simp only[AQ.injEq,reduceCtorEq]at hl<;>subst hl<;>exact⟨_,rfl,rfl⟩
     obtain⟨k,rfl,hk⟩:=hk
     simp only[G4]at h
     cases hc:LX k (JA xs f.offset) (JA ys f.offset)with
     | none=>simp only[hc]at h;cases h
     | some a=>
      simp only[hc]at h
      cases hf:G4 r xs ys with
      | none=>simp only[hf]at h;cases h
      | some b'=>
       simp only[hf,AQ.injEq]at h;subst h
       obtain⟨hlu,hlv⟩:=NT hc
       obtain⟨x,hx,hpx⟩:=Mp (P:=P) hu hk hX rfl hlu w
       obtain⟨y,hy,hpy⟩:=Mp (P:=P) hu hk hY rfl hlv w
       simp only[Op.eqFields]
       rw[if_pos hn]
       simp only[Sem.run_bind,hpx,hpy,Result.andThen_ok,dj hu hk hc hx hy n w]
       cases a
       ·simp
       ·simpa using KW hX hY n w hr hf
theorem Ww {op:BinOp} (hop:op = .eql\/op = .neq) {t:TypeId} {ox oy:Operand} {fs:Array Field} (hut:P.underlying t=some (.struct fs)) {l:List (Nat × FK)} (htg:FN P t fs.toList = .flat l)
  {xs ys:List V} {b:Bool} (h:G4 l xs ys=some b) {u v:Value} (hu:Ao R (.agg xs)=some u) (hv:Ao R (.agg ys)=some v) (w:World) :
  (do eqGuard op t ox oy u v;binOp op t u v:Sem Value).run P w = .ok (.bool (if op = .eql then b else !b)) w:=by
 obtain⟨X,hX,rfl⟩:=Hp hu
 obtain⟨Y,hY,rfl⟩:=Hp hv
 have hfo:P.fieldsOf t=fs:=by simp[Program.fieldsOf,hut]
 unfold FN at htg
 cases hs:(P.stoodInHeld t || P.eqGuardType P.depth t)with
 | true=>rw[hs]at htg;cases htg
 | false=>
  rw[hs]at htg
  simp only[Bd]at hs
  cases hfl:G3 P fs.toList with
  | none=>rw[hfl]at htg;cases htg
  | some l'=>
   rw[hfl]at htg
   simp only[Fp.flat.injEq]at htg;subst htg
   have he:(Op.equalIn 10000 t (.agg X.toArray) (.agg Y.toArray)).run P w = .ok b w:=by
    rw[run_equalIn_agg w 9999 t _ _ (by rw[hfo];exact hut) hs.1,hfo]
    exact KW hX hY 9998 w hfl h
   rw[Sem.run_bind,run_eqGuard_agg w op t ox oy _ _ hs.2,Result.andThen_ok]
   rcases hop with rfl|rfl
   ·rw[run_eql_struct,he];rfl
   ·rw[run_neq_struct,he];rfl
theorem O9 (t:TypeId) (fs:List Field):FN P t fs = .none\/∃l,FN P t fs = .flat l:=by
 unfold FN
 split
 ·exact .inr ⟨_,rfl⟩
 ·exact .inl rfl
set_option maxHeartbeats 2000000 in
theorem iy {op:BinOp} (hop:op = .eql\/op = .neq) {t:TypeId} {ox oy:Operand} {x y:V} {b:Bool} (h:Jz (di P op t ox oy) x y=some b)
  {u v:Value} (hu:Ao R x=some u) (hv:Ao R y=some v) (w:World):(do eqGuard op t ox oy u v;binOp op t u v:Sem Value).run P w = .ok (.bool (if op = .eql then b else !b)) w:=by
 have htag:di P op t ox oy=(match P.underlying t with
  | some .bool => .bool
  | some (.struct fs)=>FN P t fs.toList
  | some (.pointer _) => .ptr
  | some (.slice _) => .slice
  | some (.map _ _) => .map
  | some (.func _ _ _) => .func
  | some (.interface _) => .iface (MB ox || MB oy)
  | _ => .none):=by rcases hop with rfl | rfl<;>rfl
 rw[htag]at h
 clear htag
 generalize htg:(match P.underlying t with
  | some .bool=>Fp.bool
  | some (.struct fs)=>FN P t fs.toList
  | some (.pointer _) => .ptr
  | some (.slice _) => .slice
  | some (.map _ _) => .map
  | some (.func _ _ _) => .func
  | some (.interface _) => .iface (MB ox || MB oy)
  | _ => .none)=tg at h
 have hd:∃d,P.underlying t=some d:=by
  cases hut:P.underlying t with
  | none=>rw[hut]at htg;subst htg;cases h
  | some d=>exact⟨d,rfl⟩
 obtain⟨d,hut⟩:=hd
 rw[hut]at htg
 have hfin:(eqGuard op t ox oy u v).run P w = .ok () w->(Op.equal t u v).run P w = .ok b w ->
   binOp .eql t u v=(do pure (.bool (<-Op.equal t u v)))->binOp .neq t u v=(do pure (.bool (!(<-Op.equal t u v)))) ->
   (do eqGuard op t ox oy u v;binOp op t u v:Sem Value).run P w = .ok (.bool (if op = .eql then b else !b)) w:=fun h1 h2 h3 h4=>by
  rcases hop with rfl|rfl
  ·rw[Sem.run_bind,h1,Result.andThen_ok,h3,Sem.run_bind,h2];rfl
  ·rw[Sem.run_bind,h1,Result.andThen_ok,h4,Sem.run_bind,h2];rfl
 have hplain:∀(hn:∀z,u = .agg z->False) (hm:u = .nilIface->v = .nilIface->False) (hb:∀n,(Op.equalIn (n+1) t u v).run P w = .ok b w),
   binOp .eql t u v=(do pure (.bool (<-Op.equal t u v)))->binOp .neq t u v=(do pure (.bool (!(<-Op.equal t u v)))) ->
   (do eqGuard op t ox oy u v;binOp op t u v:Sem Value).run P w = .ok (.bool (if op = .eql then b else !b)) w:=fun hn hm hb h3 h4=>
  hfin (Ft op t ox oy u v w hn hm) (VA w hb) h3 h4
 by_cases hst:∃fs,d = .struct fs
 ·obtain⟨fs,rfl⟩:=hst
  simp only at htg
  rcases O9 (P:=P) t fs.toList with h0|⟨l,h0⟩
  ·rw[h0]at htg;subst htg;cases h
  ·rw[h0]at htg;subst htg
   cases x<;>cases y<;>first
    | (exact Ww hop hut h0 h hu hv w)
    | cases h
 unfold Jz at h
 split at h<;>(try (cases h;done))<;>(try (simp only[AQ.injEq]at h;subst h))
 all_goals (cases d<;>first | exact(hst ⟨_,rfl⟩).elim | simp only[reduceCtorEq]at htg)
 ·cases hu;cases hv
  exact hplain (fun _ e=>by cases e) (fun e=>by cases e) (fun n=>by simp[Op.equalIn,run_underlying hut]) rfl rfl
 ·cases hu;cases hv
  exact hplain (fun _ e=>by cases e) (fun e=>by cases e) (fun n=>by simp[Op.equalIn,run_underlying hut]) rfl rfl
 ·cases hu;obtain⟨i,_,rfl⟩:=I9 hv
  exact hplain (fun _ e=>by cases e) (fun e=>by cases e) (fun n=>by simp[Op.equalIn,run_underlying hut]) rfl rfl
 ·cases hv;obtain⟨i,_,rfl⟩:=I9 hu
  exact hplain (fun _ e=>by cases e) (fun e=>by cases e) (fun n=>by simp[Op.equalIn,run_underlying hut]) rfl rfl
 ·cases hu;cases hv
  exact hplain (fun _ e=>by cases e) (fun e=>by cases e) (fun n=>by simp[Op.equalIn,run_underlying hut]) rfl rfl
 ·cases hu;obtain⟨i,m,_,rfl,_⟩:=DG hv
  exact hplain (fun _ e=>by cases e) (fun e=>by cases e) (fun n=>by simp[Op.equalIn,run_underlying hut]) rfl rfl
 ·cases hv;obtain⟨i,m,_,rfl,_⟩:=DG hu
  exact hplain (fun _ e=>by cases e) (fun e=>by cases e) (fun n=>by simp[Op.equalIn,run_underlying hut]) rfl rfl
 ·cases hu;obtain⟨i,_,_,rfl⟩:=Ef hv
  exact hplain (fun _ e=>by cases e) (fun e=>by cases e) (fun n=>by simp[Op.equalIn,run_underlying hut]) rfl rfl
 ·cases hv;obtain⟨i,_,_,rfl⟩:=Ef hu
  exact hplain (fun _ e=>by cases e) (fun e=>by cases e) (fun n=>by simp[Op.equalIn,run_underlying hut]) rfl rfl
 ·cases hu;cases hv
  exact hplain (fun _ e=>by cases e) (fun e=>by cases e) (fun n=>by simp[Op.equalIn,run_underlying hut]) rfl rfl
 ·cases hu;obtain⟨i,_,rfl⟩:=H5 hv
  exact hplain (fun _ e=>by cases e) (fun e=>by cases e) (fun n=>by simp[Op.equalIn,run_underlying hut]) rfl rfl
 ·cases hv;obtain⟨i,_,rfl⟩:=H5 hu
  exact hplain (fun _ e=>by cases e) (fun e=>by cases e) (fun n=>by simp[Op.equalIn,run_underlying hut]) rfl rfl
 ·cases hu;cases hv
  exact hplain (fun _ e=>by cases e) (fun e=>by cases e) (fun n=>by simp[Op.equalIn,run_underlying hut]) rfl rfl
 ·cases hu;obtain⟨y,z,_,_,rfl⟩:=J4 hv
  exact hplain (fun _ e=>by cases e) (fun e=>by cases e) (fun n=>by simp[Op.equalIn,run_underlying hut]) rfl rfl
 ·cases hv;obtain⟨y,z,_,_,rfl⟩:=J4 hu
  exact hplain (fun _ e=>by cases e) (fun e=>by cases e) (fun n=>by simp[Op.equalIn,run_underlying hut]) rfl rfl
 ·cases hu;cases hv
  refine hfin ?_ (VA w (fun n=>by simp[Op.equalIn,run_underlying hut])) rfl rfl
  have hl:(MB ox || MB oy)=true:=by simpa using htg
  rcases hop with rfl|rfl<;>cases ox<;>cases oy<;>first|rfl|(exfalso;simp[MB]at hl)
 ·cases hu;obtain⟨y,_,rfl⟩:=MN hv
  exact hplain (fun _ e=>by cases e) (fun _ e=>by cases e) (fun n=>by simp[Op.equalIn,run_underlying hut]) rfl rfl
 ·cases hv;obtain⟨y,_,rfl⟩:=MN hu
  exact hplain (fun _ e=>by cases e) (fun e=>by cases e) (fun n=>by simp[Op.equalIn,run_underlying hut]) rfl rfl
theorem rp {t:TypeId} {ox oy:Operand} {x y:V} {v:V} {op:BinOp} (hi:∀k n k' m,x = .int k n->y = .int k' m->False) (hs:∀l m,x = .str l->y = .str m->False)
  (h:G5 op (di P op t ox oy) x y=some v):(op = .eql\/op = .neq)/\∃b,Jz (di P op t ox oy) x y=some b/\v = .bool (if op = .eql then b else !b):=by
 unfold G5 at h
 split at h
 ·exact(hi _ _ _ _ rfl rfl).elim
 ·exact(hs _ _ rfl rfl).elim
 ·cases op<;>simp only[Aa]at h<;>first
   | (obtain⟨b,hb,rfl⟩:=h;exact⟨.inl rfl,b,hb,by simp⟩)
   | (obtain⟨b,hb,rfl⟩:=h;exact⟨.inr rfl,b,hb,by simp⟩)
   | cases h
theorem Wv {tg:Fp} {x y:V} {b:Bool} (h:Jz tg x y=some b):x.live=true/\y.live=true:=by
 unfold Jz at h
 split at h<;>first | exact⟨rfl,rfl⟩ | cases h
theorem rm {o:BinOp} {t:TypeId} {ox oy:Operand} {v:V} (he:B7 R e a.tmps) (hg:Dz G R)
  (h:G5 o (di P o t ox oy) (CP e (Al G ox)) (CP e (Al G oy))=some v) (w:World) :
  ∃x,Ao R v=some x/\(do eqGuard o t ox oy (a.eval ox) (a.eval oy);binOp o t (a.eval ox) (a.eval oy):Sem Value).run P w = .ok x w:=by
 by_cases hi:∃k n k' m,CP e (Al G ox) = .int k n/\CP e (Al G oy) = .int k' m
 ·obtain⟨k,n,k',m,hx,hy⟩:=hi
  rw[hx,hy]at h
  rw[Fy he hg hx,Fy he hg hy]
  obtain⟨r,hr,hrun⟩:=jf (R:=R) (P:=P) h t w
  exact⟨r,hr,by rw[Sem.run_bind,Ft _ _ _ _ _ _ _ (fun _ e=>by cases e) (fun e=>by cases e)];exact hrun⟩
 ·by_cases hs:∃l m,CP e (Al G ox) = .str l/\CP e (Al G oy) = .str m
  ·obtain⟨l,m,hx,hy⟩:=hs
   rw[hx,hy]at h
   rw[LW he hg hx,LW he hg hy]
   obtain⟨r,hr,hrun⟩:=je (R:=R) (P:=P) h t w
   exact⟨r,hr,by rw[Sem.run_bind,Ft _ _ _ _ _ _ _ (fun _ e=>by cases e) (fun e=>by cases e)];exact hrun⟩
  ·obtain⟨hop,b,hb,rfl⟩:=rp (fun k n k' m hx hy=>hi ⟨k,n,k',m,hx,hy⟩) (fun l m hx hy=>hs ⟨l,m,hx,hy⟩) h
   obtain⟨hlx,hly⟩:=Wv hb
   have hu:=ev (a:=a) he hg rfl hlx
   have hv:=ev (a:=a) he hg rfl hly
   exact⟨_,rfl,iy hop hb hu hv w⟩
end Go.Og
namespace Go.Og
variable {P:Program} {G:Nat->Bool} {R:Cz} {e:B6} {a:Act}
theorem M4 {m l:Nat} (h:¬m=l):Ak m l=false:=Dw.2 (by rw[ne_eq,AU];exact h)
theorem ja (x:V) (d d':Nat):G0 (some x) d=G0 (some x) d':=by cases x<;>rfl
theorem M2 (he:B7 R e a.tmps) (hg:Dz G R) {o:Option Operand} {d n:Nat} (h:G0 (Df e (o.map (Al G))) d=some n) (y:Nat) (hy:n<=y) (code:BoundsCode) (w:World) :
  (o=none/\n=d)\/∃x,o=some x/\(Instr.sliceBound (a.eval x) y code).run P w = .ok n w:=by
 cases o with
 | none=>simp only[oX,Df,G0,AQ.injEq]at h;exact .inl ⟨rfl,h.symm⟩
 | some x=>
  right
  refine⟨x,rfl,?_⟩
  simp only[CC,Df]at h
  unfold G0 at h
  split at h
  ·rename_i heq;cases heq
  ·rename_i k m heq
   simp only[AQ.injEq]at heq
   split at h
   ·rename_i h0
    simp only[AQ.injEq]at h
    subst h
    rw[Fy he hg heq]
    exact run_sliceBound w k m y code h0 (by omega)
   ·cases h
  ·cases h
theorem Ge (he:B7 R e a.tmps) (hg:Dz G R) {lo hi mx:Option Operand} {len cap l h m:Nat} (isSlice:Bool)
  (hm:G0 (Df e (mx.map (Al G))) cap=some m) (hh:G0 (Df e (hi.map (Al G))) len=some h) (hl:G0 (Df e (lo.map (Al G))) 0=some l)
  (h1:l<=h) (h2:h<=m) (h3:m<=cap) (hmx:mx.isSome=true->hi.isSome=true) (w:World) :
  (Instr.sliceBounds isSlice len cap (lo.map a.eval) (hi.map a.eval) (mx.map a.eval)).run P w = .ok (l,h,m) w:=by
 unfold Instr.sliceBounds
 rcases M2 (P:=P) he hg hm cap h3 (if isSlice then .slice3Acap else .slice3Alen) w with ⟨rfl,rfl⟩|⟨x,rfl,hx⟩
 ·rcases M2 (P:=P) he hg hh m h2 (if isSlice then .sliceAcap else .sliceAlen) w with ⟨rfl,rfl⟩|⟨y,rfl,hy⟩
  ·rcases M2 (P:=P) he hg hl h h1 .sliceB w with ⟨rfl,rfl⟩|⟨z,rfl,hz⟩
   ·rfl
   ·simp[hz]
  ·rcases M2 (P:=P) he hg hl h h1 .sliceB w with ⟨rfl,rfl⟩|⟨z,rfl,hz⟩
   ·simp[hy]
   ·simp[hy,hz]
 ·rcases M2 (P:=P) he hg hh m h2 .slice3B w with ⟨rfl,rfl⟩|⟨y,rfl,hy⟩
  ·simp at hmx
  ·rcases M2 (P:=P) he hg hl h h1 .slice3C w with ⟨rfl,rfl⟩|⟨z,rfl,hz⟩
   ·simp[hx,hy]
   ·simp[hx,hy,hz]
theorem add_eq (b o n:Nat):(⟨b,o,none⟩:Addr).add n=⟨b,o+n,none⟩:=by
 unfold Addr.add
 split
 ·rename_i h;subst h;rfl
 ·rfl
theorem rh {i:BI} {z off l:Nat}:i.cap z (off+l*z)=i.cap z off-l:=by
 unfold BI.cap
 rw[<-Nat.sub_sub,Nat.mul_comm l z]
 by_cases h:z*l<=i.endc-off
 ·exact Nat.sub_mul_div_of_le (i.endc-off) z l h
 ·have hz:i.endc-off<z*l:=by omega
  rw[Nat.sub_eq_zero_of_le (by omega),Nat.zero_div]
  have:=Nat.div_le_of_le_mul (m:=i.endc-off) (n:=l) (k:=z) (by omega)
  omega
theorem cw (he:B7 R e a.tmps) (hg:Dz G R) {t el:TypeId} {esz:Nat} (hu:P.underlying t=some (.slice el)) (hs:GH P el=some esz)
  {x:Operand} {lo hi mx:Option Operand} (hmx:mx.isSome=true->hi.isSome=true) {v:V}
  (h:Cs esz (CP e (Al G x)) (Df e (lo.map (Al G))) (Df e (hi.map (Al G))) (Df e (mx.map (Al G)))=some v) (w:World) :
  ∃r,Ao R v=some r/\(Instr.sliceAt t (a.eval x) (lo.map a.eval) (hi.map a.eval) (mx.map a.eval)).run P w = .ok r w:=by
 have hat:∀u,(Instr.sliceAt t u (lo.map a.eval) (hi.map a.eval) (mx.map a.eval)).run P w=(Instr.slice t u (lo.map a.eval) (hi.map a.eval) (mx.map a.eval)).run P w:=fun u=>by
  unfold Instr.sliceAt;simp[run_underlying hu]
 rw[hat]
 have hsl:∀(b:Option Addr) (len cap l hh m:Nat),(Instr.sliceBounds true len cap (lo.map a.eval) (hi.map a.eval) (mx.map a.eval)).run P w = .ok (l,hh,m) w ->
   (Instr.slice t (.slice b len cap) (lo.map a.eval) (hi.map a.eval) (mx.map a.eval)).run P w = .ok (.slice (if m=l then b else b.map (·.add (l*esz))) (hh-l) (m-l)) w:=fun b len cap l hh m hb=>by
  unfold Instr.slice;simp[run_underlying hu,hb,ES hs w]
 cases hx:CP e (Al G x)with
 | nils=>
  rw[hx]at h
  have hc:=ev (a:=a) he hg hx rfl
  simp only[Ao,AQ.injEq]at hc
  rw[<-hc]
  simp only[Cs]at h
  cases hm:G0 (Df e (mx.map (Al G))) 0<;>simp only[hm]at h
  ·cases h
  rename_i m
  cases hh:G0 (Df e (hi.map (Al G))) 0<;>simp only[hh]at h
  ·cases h
  rename_i h'
  cases hl:G0 (Df e (lo.map (Al G))) 0<;>simp only[hl]at h
  ·cases h
  rename_i l
  split at h
  ·rename_i hcond
   simp only[AG,Ac,AU]at hcond
   obtain⟨⟨h1,h2⟩,h3⟩:=hcond
   cases h
   refine⟨_,rfl,?_⟩
   rw[hsl none 0 0 l h' m (Ge he hg true hm hh hl h1 h2 (by omega) hmx w)]
   have:m=0:=h3
   have:h'=0:=by omega
   have:l=0:=by omega
   subst_vars;rfl
  ·cases h
 | sl b off len c=>
  rw[hx]at h
  have hc:=ev (a:=a) he hg hx rfl
  obtain⟨i,cap,hi',hev,hex,hop⟩:=DG hc
  rw[hev]
  cases c with
  | ex c=>
   obtain rfl:=hex c rfl
   simp only[Cs]at h
   cases hm:G0 (Df e (mx.map (Al G))) cap<;>simp only[hm]at h
   ·cases h
   rename_i m
   cases hh:G0 (Df e (hi.map (Al G))) len<;>simp only[hh]at h
   ·cases h
   rename_i h'
   cases hl:G0 (Df e (lo.map (Al G))) 0<;>simp only[hl]at h
   ·cases h
   rename_i l
   split at h
   ·rename_i hcond
    simp only[AG,Ac,AU]at hcond
    obtain⟨⟨h1,h2⟩,h3⟩:=hcond
    have h3:m<=cap:=by
     rw[Bk]at h3
     rcases h3 with h3|h3
     ·cases hq:Df e (mx.map (Al G))with
      | none=>rw[hq]at hm;cases hm;exact AK _
      | some q=>rw[hq]at h3;cases h3
     ·exact Nat.le_of_ble_eq_true h3
    cases h
    refine⟨_,?_,hsl _ len cap l h' m (Ge he hg true hm hh hl h1 h2 h3 hmx w)⟩
    simp only[Ao,hi',CC]
    by_cases hml:m=l
    ·simp[hml]
    ·have:Ak m l=false:=M4 hml
     simp[hml,this,add_eq,D3]
   ·cases h
  | op z=>
   obtain⟨hcap,hlen⟩:=hop z rfl
   simp only[Cs]at h
   cases hh:G0 (Df e (hi.map (Al G))) len
   ·rw[hh]at h;cases h
   rename_i h'
   cases hl:G0 (Df e (lo.map (Al G))) 0
   ·rw[hh,hl]at h;cases h
   rename_i l
   rw[hh,hl]at h
   simp only at h
   cases hmo:mx with
   | none=>
    subst hmo
    simp only[oX,Df]at h
    split at h
    ·rename_i hcond
     simp only[AG,Ac,AU]at hcond
     obtain⟨⟨h1,h2⟩,h3⟩:=hcond
     subst h3
     have hb:=Ge (a:=a) (P:=P) (cap:=cap) (mx:=none) he hg true (by simp[Df,G0]) hh hl h1 (Bc h2 hlen) (AK _) hmx w
     refine⟨_,?_,hsl _ len cap l h' cap hb⟩
     split at h
     ·rename_i hll
      simp only[AU]at hll
      have hhl:h'=l:=by omega
      subst hhl
      split at h
      ·rename_i hl0
       simp only[AU]at hl0
       cases h
       subst hl0
       simp only[Ao,hi',C0,<-hcap,hlen,if_true,Tu,Nat.zero_mul,CC,add_eq,JH,ite_self,<-hll,DZ]
      ·cases h
       simp only[Ao,hi',C0,<-hcap,JG,CC,if_pos (show h'<=cap by omega)]
       by_cases hcl:cap=h'<;>simp[hcl]
     ·rename_i hll
      simp only[AU]at hll
      cases h
      have hne:cap≠l:=by omega
      simp only[Ao,hi',C0,rh,<-hcap,if_neg hne,CC,add_eq,D3,if_pos (show h'-l<=cap-l by omega)]
    ·cases h
   | some mo=>
    subst hmo
    cases hm:G0 (Df e ((some mo).map (Al G))) 0<;>simp only[CC,Df]at h hm<;>simp only[hm]at h
    ·cases h
    rename_i m
    split at h
    ·rename_i hcond
     simp only[AG,Ac,AU]at hcond
     obtain⟨⟨h1,h2⟩,h3⟩:=hcond
     cases h
     have hm':G0 (Df e ((some mo).map (Al G))) cap=some m:=by
      simp only[CC,Df]
      rw[ja _ cap 0];exact hm
     refine⟨_,?_,hsl _ len cap l h' m (Ge he hg true hm' hh hl h1 h2 (by omega) hmx w)⟩
     simp only[Ao,hi',CC]
     by_cases hml:m=l
     ·simp[hml]
     ·have:Ak m l=false:=M4 hml
      simp[hml,this,add_eq,D3]
    ·cases h
 | sle b off k z=>
  rw[hx]at h
  have hc:=ev (a:=a) he hg hx rfl
  obtain⟨i,hi',hk,hev⟩:=Ef hc
  simp only[Cs]at h
  cases hh:G0 (Df e (hi.map (Al G))) 0
  ·rw[hh]at h;cases h
  rename_i h'
  cases hl:G0 (Df e (lo.map (Al G))) 0
  ·rw[hh,hl]at h;cases h
  rename_i l
  rw[hh,hl]at h
  cases hmo:mx with
  | some mo=>subst hmo;simp only[CC,Df]at h;cases h
  | none=>
   subst hmo
   simp only[oX,Df]at h
   split at h
   ·rename_i hcond
    simp only[AG,AU]at hcond
    obtain⟨rfl,rfl⟩:=hcond
    cases h
    refine⟨_,hc,?_⟩
    rw[hev]
    have hb:=Ge (a:=a) (P:=P) (len:=0) (cap:=i.cap z off-k) (m:=i.cap z off-k) (mx:=none) he hg true (by simp[Df,G0]) hh hl (AK 0) (DZ _) (AK _) hmx w
    rw[hsl _ 0 _ 0 0 _ hb]
    simp only[Nat.zero_mul,Tu,CC]
    split<;>split<;>simp[Addr.add]
   ·cases h
 | _=>rw[hx]at h;simp only[Cs]at h;cases h
end Go.Og
namespace Go.Og
variable {P:Program} {G:Nat->Bool} {R:Cz} {e:B6} {a:Act}
theorem SK (he:B7 R e a.tmps) (hg:Dz G R) {t el:TypeId} {n esz:Nat} (hu:P.underlying t=some (.array n el)) (hs:GH P el=some esz)
  {x:Operand} {lo hi mx:Option Operand} (hmx:mx.isSome=true->hi.isSome=true) {v:V}
  (h:IW n esz (CP e (Al G x)) (Df e (lo.map (Al G))) (Df e (hi.map (Al G))) (Df e (mx.map (Al G)))=some v) (w:World) :
  ∃r,Ao R v=some r/\(Instr.sliceAt t (a.eval x) (lo.map a.eval) (hi.map a.eval) (mx.map a.eval)).run P w = .ok r w:=by
 cases hx:CP e (Al G x)with
 | ptr b off=>
  rw[hx]at h
  obtain⟨i,hi',hev⟩:=IG (a:=a) he hg hx
  simp only[IW]at h
  cases hm:G0 (Df e (mx.map (Al G))) n
  ·rw[hm]at h;cases h
  rename_i m
  cases hh:G0 (Df e (hi.map (Al G))) n
  ·rw[hm,hh]at h;cases h
  rename_i h'
  cases hl:G0 (Df e (lo.map (Al G))) 0
  ·rw[hm,hh,hl]at h;cases h
  rename_i l
  rw[hm,hh,hl]at h
  simp only at h
  split at h
  ·rename_i hcond
   simp only[AG,Ac,AU]at hcond
   obtain⟨⟨h1,h2⟩,h3⟩:=hcond
   cases h
   have hb:=Ge (P:=P) (a:=a) he hg false hm hh hl h1 h2 h3 hmx w
   refine⟨.slice (some (if m=l then⟨i.blk,i.shift+off,none⟩else(⟨i.blk,i.shift+off,none⟩:Addr).add (l*esz))) (h'-l) (m-l),?_,?_⟩
   ·simp only[Ao,hi',CC]
    by_cases hml:m=l
    ·simp[hml]
    ·have:Ak m l=false:=M4 hml
     simp[hml,this,add_eq,D3]
   ·rw[hev]
    unfold Instr.sliceAt
    simp[run_underlying hu,Instr.sureAddr,hb,ES hs w]
  ·cases h
 | _=>rw[hx]at h;simp only[IW]at h;cases h
theorem SJ (he:B7 R e a.tmps) (hg:Dz G R) {t:TypeId} (hu:P.underlying t=some .string)
  {x:Operand} {lo hi:Option Operand} {v:V}
  (h:IV (CP e (Al G x)) (Df e (lo.map (Al G))) (Df e (hi.map (Al G)))=some v) (w:World) :
  ∃r,Ao R v=some r/\(Instr.sliceAt t (a.eval x) (lo.map a.eval) (hi.map a.eval) none).run P w = .ok r w:=by
 cases hx:CP e (Al G x)with
 | str s=>
  rw[hx]at h
  have hev:=LW (a:=a) he hg hx
  simp only[IV]at h
  cases hh:G0 (Df e (hi.map (Al G))) s.len
  ·rw[hh]at h;cases h
  rename_i h'
  cases hl:G0 (Df e (lo.map (Al G))) 0
  ·rw[hh,hl]at h;cases h
  rename_i l
  rw[hh,hl]at h
  simp only at h
  split at h
  ·rename_i hcond
   simp only[AG,Ac,AU]at hcond
   obtain⟨h1,h2⟩:=hcond
   cases h
   have hsz:(ByteArray.mk s.toList.toArray).size=s.len:=by simp[ByteArray.size,BS.length_toList]
   have hb:=Ge (P:=P) (a:=a) (mx:=none) (cap:=s.len) (m:=s.len) he hg false (by simp[Df,G0]) hh hl h1 h2 (AK _) (fun e=>by cases e) w
   refine⟨_,rfl,?_⟩
   rw[hev]
   unfold Instr.sliceAt Instr.slice
   simp only[oX]at hb
   simp only[Sem.run_bind,run_underlying hu,Result.andThen_ok,Option.isSome_none,DE,if_false,hsz,hb,Sem.run_pure]
   congr 2
   rw[BS.toList_sub h2]
   apply ByteArray.ext
   rw[ByteArray.data_extract]
   apply Gh
   simp[Ln]
  ·cases h
 | _=>rw[hx]at h;simp only[IV]at h;cases h
theorem DH {b off:Nat} {i:BI} (h:R b=some i):Ao R (.ptr b off)=some (.pointer (some ⟨i.blk,i.shift+off,none⟩)):=by simp only[Ao,h,CC]
theorem W3 {f:FuncId} {l m:List V} {y z:List Value} (h:A1 R l=some y) (k:A1 R m=some z):Ao R (.fn f l m)=some (.func (.func f) y.toArray z.toArray):=by simp only[Ao,h,k]
theorem Ym:∀(l:List Operand) (x:V) (u:Value) {k:IntKind} {n:Int} (_:B7 R e a.tmps) (_:Dz G R) (_:Ao R x=some u) (_:∃k n,x = .int k n)
  (_:Ug x (Fo e (l.map (Al G)))=some (.int k n)) (w:World),((l.map a.eval).foldlM (m:=Sem) Builtin.min2 u).run P w = .ok (.int k n) w
 | [],x,u,k,n,_,_,hu,_,h,w=>by
  simp only[Fo,HJ,Ug,AQ.injEq]at h
  subst h;cases hu;rfl
 | o::l,x,u,k,n,he,hg,hu,⟨k1,n1,hx⟩,h,w=>by
  subst hx
  simp only[Fo,B3]at h
  unfold Ug at h
  split at h
  ·rename_i heq;cases heq
  ·rename_i heq1 heq
   cases heq1
   rename_i k2 n2 l2 _
   simp only[List.cons.injEq]at heq
   obtain⟨ho,hl⟩:=heq
   split at h
   ·rename_i hk
    subst hk
    subst hl
    cases hu
    rw[B3,List.foldlM_cons,Fy he hg ho]
    simp only[Builtin.min2,Sem.run_bind,Sem.run_pure,Result.andThen_ok]
    exact Ym l _ _ he hg rfl ⟨_,_,rfl⟩ h w
   ·cases h
  ·cases h
theorem Yn:∀(l:List Operand) (x:V) (u:Value) {k:IntKind} {n:Int} (_:B7 R e a.tmps) (_:Dz G R) (_:Ao R x=some u) (_:∃k n,x = .int k n)
  (_:Uh x (Fo e (l.map (Al G)))=some (.int k n)) (w:World),((l.map a.eval).foldlM (m:=Sem) Builtin.max2 u).run P w = .ok (.int k n) w
 | [],x,u,k,n,_,_,hu,_,h,w=>by
  simp only[Fo,HJ,Uh,AQ.injEq]at h
  subst h;cases hu;rfl
 | o::l,x,u,k,n,he,hg,hu,⟨k1,n1,hx⟩,h,w=>by
  subst hx
  simp only[Fo,B3]at h
  unfold Uh at h
  split at h
  ·rename_i heq;cases heq
  ·rename_i heq1 heq
   cases heq1
   rename_i k2 n2 l2 _
   simp only[List.cons.injEq]at heq
   obtain⟨ho,hl⟩:=heq
   split at h
   ·rename_i hk
    subst hk
    subst hl
    cases hu
    rw[B3,List.foldlM_cons,Fy he hg ho]
    simp only[Builtin.max2,Sem.run_bind,Sem.run_pure,Result.andThen_ok]
    exact Yn l _ _ he hg rfl ⟨_,_,rfl⟩ h w
   ·cases h
  ·cases h
theorem Ye {t:TypeId} {s:Option Nat} (hs:Gj P t=some s) {l:List V} {x:List Value} (hx:A1 R l=some x) {off:Nat} {v:V}
  (h:LV l off s=some v) (w:World) :
  ∃r,Ao R v=some r/\(part t x.toArray off).run P w = .ok r w:=by
 obtain⟨h1,h2⟩:=KK (P:=P) hs w
 cases s with
 | none=>
  obtain⟨r,hr,hk⟩:=EU hx h
  refine⟨r,hr,?_⟩
  unfold part
  simp[h1,hk]
 | some n=>
  simp only[LV]at h
  split at h
  ·cases h
   refine⟨_,Dn (PE (W2 hx off) n),?_⟩
   unfold part
   simp only[Sem.run_bind,h1,Result.andThen_ok,Option.isSome_some,if_true,h2 n rfl,Sem.run_pure]
   congr 2
   apply Gh
   simp[Ln]
  ·cases h
theorem jV (he:B7 R e a.tmps) (hg:Dz G R) (b:Builtin) (ts:Array TypeId) (ty:TypeId) (lits:Array Bool) (args:Array Operand) {v:V}
  (h:BV (Kn P G b ts args) e=some v) (w:World):∃x,Ao R v=some x/\(builtin b ts ty lits (args.map a.eval)).run P w = .ok (.value x) w:=by
 have val:∀{s:Sem Value} {x:Value},s.run P w = .ok x w->(do pure (Next.value (<-s)):Sem Next).run P w = .ok (.value x) w:=fun hs=>by simp[hs]
 obtain⟨ts⟩:=ts
 obtain⟨args⟩:=args
 unfold Kn at h
 split at h
 ·
  rename_i t x hts has
  simp only at hts has
  subst hts has
  split at h
  ·rename_i hu
   simp only[BV]at h
   split at h
   ·rename_i s hx;cases h
    refine⟨_,rfl,?_⟩
    simp only[builtin]
    have hsz:(ByteArray.mk s.toList.toArray).size=s.len:=by simp[ByteArray.size,BS.length_toList]
    exact val (by rw[show wJ a.eval ⟨[x]⟩=#[a.eval x] from by simp];rw[LW (a:=a) he hg hx];unfold Builtin.len_;simp[run_underlying hu,goInt,hsz])
   ·cases h
  ·rename_i el hu
   simp only[BV]at h
   split at h
   ·rename_i hx;cases h
    have hc:=ev (a:=a) he hg hx rfl
    simp only[Ao,AQ.injEq]at hc
    refine⟨_,rfl,?_⟩
    simp only[builtin]
    exact val (by rw[show wJ a.eval ⟨[x]⟩=#[a.eval x] from by simp];rw[<-hc];unfold Builtin.len_;simp[run_underlying hu,goInt])
   ·rename_i b off n c hx;cases h
    obtain⟨i,m,_,hev,_⟩:=DG (ev (a:=a) he hg hx rfl)
    refine⟨_,rfl,?_⟩
    simp only[builtin]
    exact val (by unfold Builtin.len_;simp[run_underlying hu,hev,goInt])
   ·rename_i b off n c hx;cases h
    obtain⟨i,_,_,hev⟩:=Ef (ev (a:=a) he hg hx rfl)
    refine⟨_,rfl,?_⟩
    simp only[builtin]
    exact val (by unfold Builtin.len_;simp[run_underlying hu,hev,goInt])
   ·cases h
  ·rename_i n el hu
   simp only[BV,AQ.injEq]at h
   subst h
   refine⟨_,rfl,?_⟩
   simp only[builtin]
   exact val (by unfold Builtin.len_;simp[run_underlying hu,goInt])
  ·rename_i el hu
   split at h
   ·rename_i n el' hu'
    simp only[BV,AQ.injEq]at h
    subst h
    refine⟨_,rfl,?_⟩
    simp only[builtin]
    exact val (by unfold Builtin.len_;simp[run_underlying hu,run_underlying hu',goInt])
   ·cases h
  ·cases h
 ·
  rename_i t x hts has
  simp only at hts has
  subst hts has
  split at h
  ·rename_i el hu
   simp only[BV]at h
   split at h
   ·rename_i hx;cases h
    have hc:=ev (a:=a) he hg hx rfl
    simp only[Ao,AQ.injEq]at hc
    refine⟨_,rfl,?_⟩
    simp only[builtin]
    exact val (by rw[show wJ a.eval ⟨[x]⟩=#[a.eval x] from by simp];rw[<-hc];unfold Builtin.cap_;simp[run_underlying hu,goInt])
   ·rename_i b off n c hx;cases h
    obtain⟨i,m,_,hev,hex,_⟩:=DG (ev (a:=a) he hg hx rfl)
    obtain rfl:=hex _ rfl
    refine⟨_,rfl,?_⟩
    simp only[builtin]
    exact val (by unfold Builtin.cap_;simp[run_underlying hu,hev,goInt])
   ·cases h
  ·cases h
 ·
  split at h
  ·split at h
   ·split at h
    ·have hno:∀(q:Bool) (e1:TypeId) (n m:Nat) (x y:AO),BV (if q=true then Eb.bad else Eb.append e1 n m x y) e≠some v:=by
      intro q e1 n m x y;cases q<;>simp[BV]
     exact(hno _ _ _ _ _ _ h).elim
    ·cases h
   ·cases h
  ·cases h
 ·
  split at h
  ·split at h
   ·simp only[BV]at h;cases h
   ·cases h
  ·cases h
 ·
  rename_i x l has
  simp only at has
  subst has
  simp only[BV]at h
  split at h
  ·rename_i k n hm;cases h
   refine⟨_,rfl,?_⟩
   simp only[builtin]
   refine val ?_
   have hx:∃k n,CP e (Al G x) = .int k n:=by
    cases l with
    | nil=>simp only[Fo,HJ,Ug,AQ.injEq]at hm;exact⟨k,n,hm⟩
    | cons y l=>
     simp only[Fo,B3]at hm
     unfold Ug at hm
     split at hm
     ·rename_i heq;cases heq
     ·rename_i heq _;exact⟨_,_,heq⟩
     ·cases hm
   obtain⟨k1,n1,hx1⟩:=hx
   have:=Ym (P:=P) l _ _ he hg (ev (a:=a) he hg hx1 rfl) ⟨k1,n1,rfl⟩ (hx1 ▸ hm) w
   simpa[Builtin.min_]using this
  ·cases h
 ·
  rename_i x l has
  simp only at has
  subst has
  simp only[BV]at h
  split at h
  ·rename_i k n hm;cases h
   refine⟨_,rfl,?_⟩
   simp only[builtin]
   refine val ?_
   have hx:∃k n,CP e (Al G x) = .int k n:=by
    cases l with
    | nil=>simp only[Fo,HJ,Uh,AQ.injEq]at hm;exact⟨k,n,hm⟩
    | cons y l=>
     simp only[Fo,B3]at hm
     unfold Uh at hm
     split at hm
     ·rename_i heq;cases heq
     ·rename_i heq _;exact⟨_,_,heq⟩
     ·cases hm
   obtain⟨k1,n1,hx1⟩:=hx
   have:=Yn (P:=P) l _ _ he hg (ev (a:=a) he hg hx1 rfl) ⟨k1,n1,rfl⟩ (hx1 ▸ hm) w
   simpa[Builtin.max_]using this
  ·cases h
 ·cases h
theorem MP (he:B7 R e a.tmps) (hg:Dz G R) (o:Oper) {v:V} (h:BV (Ad P G o.op) e=some v) (w:World) :
  ∃x,Ao R v=some x/\(execOp a.eval o).run P w = .ok (.value x) w:=by
 have val:∀{s:Sem Value} {x:Value},s.run P w = .ok x w->(do pure (Next.value (<-s)):Sem Next).run P w = .ok (.value x) w:=fun hs=>by simp[hs]
 obtain⟨dst,op,ty,pos,after,guard⟩:=o
 simp only at h
 cases op with
 | move x=>
  simp only[Ad,BV]at h
  split at h
  ·rename_i hl;cases h
   exact⟨_,ev he hg rfl hl,rfl⟩
  ·cases h
 | assign x=>
  simp only[Ad,BV]at h
  split at h
  ·rename_i hl;cases h
   exact⟨_,ev he hg rfl hl,rfl⟩
  ·cases h
 | pick c x y=>
  simp only[Ad,BV]at h
  split at h
  ·rename_i hc
   split at h
   ·rename_i hl;cases h
    exact⟨_,ev he hg rfl hl,by simp[execOp,KV (a:=a) he hg hc,asBool]⟩
   ·cases h
  ·rename_i hc
   split at h
   ·rename_i hl;cases h
    exact⟨_,ev he hg rfl hl,by simp[execOp,KV (a:=a) he hg hc,asBool]⟩
   ·cases h
  ·cases h
 | build t ps=>
  simp only[Ad]at h
  have hmap:∀(q:Array (Nat × Operand)),(q.map (fun(x:Nat × Operand)=>(x.1,a.eval x.2))).toList=q.toList.map (fun(x:Nat × Operand)=>(x.1,a.eval x.2)):=fun q=>Array.toList_map
  split at h
  ·rename_i fs z hu hz
   cases hp:LM P fs.toList with
   | none=>rw[hp]at h;cases h
   | some pl=>
    rw[hp]at h
    simp only at h
    cases hc:EW G (pl[·]?) ps.toList with
    | none=>rw[hc]at h;cases h
    | some l=>
     rw[hc]at h
     simp only[BV]at h
     cases hf:Ez (Js e l) z with
     | none=>rw[hf]at h;cases h
     | some r=>
      rw[hf]at h;cases h
      obtain⟨zv,hzr,hzc⟩:=GQ (P:=P) (R:=R) hz w
      obtain⟨out,h1,h2,_⟩:=OE (a:=a) he hg ps.toList l z r zv.cells hc hzc hf
      refine⟨_,Dn h2,val ?_⟩
      unfold Instr.build
      simp only[Sem.run_bind,hzr,Result.andThen_ok,run_underlying hu,Md,Sem.run_map,Qj w hp,Sem.run_pure,hmap]
      have:(fun(x:Nat)=>(pl.toArray)[x]?)=(fun x=>pl[x]?):=by funext x;simp
      simp only[this,h1,Sem.run_pure,Array.toArray_toList]
  ·rename_i n el z hu hz
   cases hp:GH P el with
   | none=>rw[hp]at h;cases h
   | some s=>
    rw[hp]at h
    simp only at h
    cases hc:EW G (fun i=>some (i*s,s)) ps.toList with
    | none=>rw[hc]at h;cases h
    | some l=>
     rw[hc]at h
     simp only[BV]at h
     cases hf:Ez (Js e l) z with
     | none=>rw[hf]at h;cases h
     | some r=>
      rw[hf]at h;cases h
      obtain⟨zv,hzr,hzc⟩:=GQ (P:=P) (R:=R) hz w
      obtain⟨out,h1,h2,_⟩:=OE (a:=a) he hg ps.toList l z r zv.cells hc hzc hf
      refine⟨_,Dn h2,val ?_⟩
      unfold Instr.build
      simp only[Sem.run_bind,hzr,Result.andThen_ok,run_underlying hu,ES hp w,hmap,h1,Sem.run_pure,Array.toArray_toList]
  ·cases h
 | nilCheck x=>
  simp only[Ad,BV]at h
  split at h
  ·rename_i b off hx
   cases h
   obtain⟨i,hi,hev⟩:=IG (a:=a) he hg hx
   refine⟨_,DH hi,?_⟩
   simp[execOp,hev]
  ·cases h
 | binOp op t x y t'=>
  simp only[Ad,BV]at h
  obtain⟨r,hr,hrun⟩:=rm (a:=a) (P:=P) he hg h w
  exact⟨r,hr,val hrun⟩
 | unOp op t x=>
  simp only[Ad,BV]at h
  unfold unV at h
  split at h
  ·rename_i k n hx;cases h
   refine⟨_,rfl,val ?_⟩
   rw[Fy he hg hx];rfl
  ·rename_i k n hx;cases h
   refine⟨_,rfl,val ?_⟩
   rw[Fy he hg hx];rfl
  ·rename_i b hx;cases h
   refine⟨_,rfl,val ?_⟩
   rw[KV he hg hx];rfl
  ·cases h
 | convert s d x=>
  simp only[Ad]at h
  unfold rY at h
  split at h
  ·rename_i ds k hs hd
   simp only[BV]at h
   split at h
   ·rename_i k' n hx;cases h
    refine⟨_,rfl,val ?_⟩
    rw[Fy he hg hx]
    simp[convert,run_underlying hs,run_underlying hd,Conv.intToInt]
   ·cases h
  ·rename_i hs hd
   simp only[BV]at h
   split at h
   ·rename_i l hx;cases h
    refine⟨_,rfl,val ?_⟩
    rw[LW he hg hx]
    simp[convert,run_underlying hs,run_underlying hd]
   ·cases h
  ·split at h<;>(simp only[BV]at h;cases h)
  ·split at h<;>(simp only[BV]at h;cases h)
  ·simp only[BV]at h;cases h
 | makeInterface t x=>
  simp only[Ad]at h
  split at h
  ·cases h
  ·rename_i d hni hu
   simp only[BV]at h
   split at h
   ·rename_i hl;cases h
    have hc:=ev (a:=a) he hg rfl hl
    refine⟨.iface t (a.eval x),by simp only[Ao,hc],val ?_⟩
    unfold Instr.makeInterface
    rw[Sem.run_bind,run_underlying hu,Result.andThen_ok]
    split
    ·rename_i m;exact(hni m rfl).elim
    ·rfl
   ·cases h
  ·cases h
 | makeFunc fn f c=>
  cases fn with
  | func f'=>
   simp only[Ad,BV]at h
   split at h
   ·rename_i hl
    simp only[AG]at hl
    cases h
    have h1:=evs (a:=a) he hg f.toList hl.1
    have h2:=evs (a:=a) he hg c.toList hl.2
    refine⟨_,W3 h1 h2,val ?_⟩
    have e1:∀q:Array Operand,wJ a.eval q=(List.map a.eval q.toList).toArray:=fun q=>by apply Gh;simp
    simp[Instr.makeFunc,e1]
   ·cases h
  | _=>simp only[Ad,BV]at h;cases h
 | slice t x lo hi mx=>
  simp only[Ad]at h
  split at h
  ·cases h
  ·rename_i hmx
   have hmx':mx.isSome=true->hi.isSome=true:=by
    intro hm;cases hh:hi.isSome<;>simp_all
   split at h
   ·rename_i hu
    split at h
    ·obtain⟨r,hr,hrun⟩:=SJ (a:=a) (P:=P) he hg hu h w
     exact⟨r,hr,val hrun⟩
    ·cases h
   ·rename_i el hu
    cases hs:GH P el with
    | none=>rw[hs]at h;cases h
    | some s=>
     rw[hs]at h
     obtain⟨r,hr,hrun⟩:=cw (a:=a) (P:=P) he hg hu hs hmx' h w
     exact⟨r,hr,val hrun⟩
   ·rename_i n el hu
    cases hs:GH P el with
    | none=>rw[hs]at h;cases h
    | some s=>
     rw[hs]at h
     obtain⟨r,hr,hrun⟩:=SK (a:=a) (P:=P) he hg hu hs hmx' h w
     exact⟨r,hr,val hrun⟩
   ·cases h
 | fieldAddr s x f=>
  simp only[Ad]at h
  split at h
  ·rename_i fs hu
   split at h
   ·rename_i fd hf
    split at h
    ·split at h<;>(simp only[BV]at h;cases h)
    ·rename_i n hn hs
     simp only[BV]at h
     split at h
     ·rename_i b off hx;cases h
      obtain⟨i,hi,hev⟩:=IG (a:=a) he hg hx
      refine⟨_,DH hi,val ?_⟩
      unfold Instr.fieldAt fieldPlace
      have hn':n≠0:=fun e=>hn (e ▸ rfl)
      simp[run_underlying hu,hf,Instr.sureAddr,hev,ES hs w,hn',add_eq,D3]
     ·cases h
    ·cases h
   ·cases h
  ·cases h
 | field s x f=>
  simp only[Ad]at h
  split at h
  ·rename_i fs hu
   split at h
   ·rename_i fd hf
    split at h
    ·rename_i n hs
     cases hx:CP e (Al G x)with
     | agg l=>
      obtain⟨y,hy,hev⟩:=Sd (a:=a) he hg hx
      have h':LV l fd.offset n=some v:=by
       cases n<;>simpa only [BV,hx,LV]using h
      obtain⟨r,hr,hrun⟩:=Ye hs hy h' w
      refine⟨r,hr,val ?_⟩
      unfold Instr.field
      simp[run_underlying hu,hf,asAgg,hev,hrun]
     | _=>cases n<;>(simp only[BV,hx]at h;cases h)
    ·cases h
   ·cases h
  ·cases h
 | indexAddr t x i=>
  simp only[Ad]at h
  split at h
  ·rename_i el hu
   split at h
   ·rename_i s hs
    simp only[BV]at h
    split at h
    ·rename_i b off len c k n hx hi
     split at h
     ·rename_i hb;cases h
      have hc:=ev (a:=a) he hg hx rfl
      obtain⟨j,m,hj,hev,_⟩:=DG hc
      refine⟨_,DH hj,val ?_⟩
      unfold Instr.indexAt
      simp[asIntOf,Fy (a:=a) he hg hi,run_underlying hu,hev,hb,ES hs w,add_eq,D3]
     ·cases h
    ·cases h
   ·cases h
  ·rename_i len el hu
   split at h
   ·rename_i s hs
    simp only[BV]at h
    split at h
    ·rename_i b off k n hx hi
     split at h
     ·rename_i hb;cases h
      obtain⟨j,hj,hev⟩:=IG (a:=a) he hg hx
      refine⟨_,DH hj,val ?_⟩
      unfold Instr.indexAt
      simp[asIntOf,Fy (a:=a) he hg hi,run_underlying hu,hev,Instr.sureAddr,hb,ES hs w,add_eq,D3]
     ·cases h
    ·cases h
   ·cases h
  ·cases h
 | index t x i=>
  simp only[Ad]at h
  split at h
  ·rename_i hu
   simp only[BV]at h
   split at h
   ·rename_i s k n hx hi
    split at h
    ·rename_i h0
     split at h
     ·rename_i hc;cases h
      simp only[Bu]at hc
      refine⟨_,rfl,val ?_⟩
      unfold Instr.index
      have hb:(ByteArray.mk s.toList.toArray)[n.toNat]? = some (UInt8.ofNat (s.get n.toNat)):=by
       have hlt:n.toNat<s.toList.length:=by rw[BS.length_toList];exact hc
       have hsz:(ByteArray.mk s.toList.toArray).size=s.toList.length:=by simp[ByteArray.size]
       have hcc:=BS.getElem?_toList s n.toNat
       rw[if_pos hc]at hcc
       rw[getElem?_pos (ByteArray.mk s.toList.toArray) n.toNat (by omega)]
       rw[AM hlt]at hcc
       simp only[AQ.injEq]at hcc ⊢
       rw[<-hcc]
       rfl
      have hgl:s.get n.toNat % 256=s.get n.toNat:=CY (s.get_lt _)
      simp[asIntOf,Fy (a:=a) he hg hi,run_underlying hu,LW (a:=a) he hg hx,h0,hb,hgl]
     ·cases h
    ·cases h
   ·cases h
  ·rename_i n el hu
   split at h
   ·rename_i z s hz hs
    simp only[BV]at h
    split at h
    ·rename_i l k m hx hi
     split at h
     ·rename_i hc
      obtain⟨y,hy,hev⟩:=Sd (a:=a) he hg hx
      obtain⟨r,hr,hrun⟩:=Ye hs hy h w
      refine⟨r,hr,val ?_⟩
      unfold Instr.index
      simp[asIntOf,Fy (a:=a) he hg hi,run_underlying hu,hev,hc,ES hz w,hrun]
     ·cases h
    ·cases h
   ·simp only[BV]at h;cases h
  ·simp only[BV]at h;cases h
 | extract x i=>
  simp only[Ad,BV]at h
  split at h
  ·rename_i l hx
   obtain⟨y,hy,hev⟩:=xr (a:=a) he hg hx
   obtain⟨r,hr,hk⟩:=EU hy h
   refine⟨r,hr,val ?_⟩
   unfold Instr.extract
   rw[hev]
   simp[hk]
  ·cases h
 | call c=>
  obtain⟨callee,args,argTypes⟩:=c
  cases callee with
  | value f=>cases f<;>(simp only[Ad,BV]at h;cases h)
  | invoke r m=>simp only[Ad,BV]at h;cases h
  | builtin b=>
   simp only[Ad]at h
   obtain⟨r,hr,hrun⟩:=jV (a:=a) (P:=P) he hg b argTypes ty (args.map fun|.const _=>true|_=>false) args h w
   refine⟨r,hr,?_⟩
   simp only[execOp,resolve,Sem.run_bind,Sem.run_pure,Result.andThen_ok,invoke]
   exact hrun
 | buildSlice t n ps=>simp only[Ad]at h;(repeat' split at h)<;>(simp only[BV]at h;cases h)
 | makeSlice t l c=>simp only[Ad]at h;(repeat' split at h)<;>(simp only[BV]at h;cases h)
 | alloc t=>simp only[Ad]at h;(repeat' split at h)<;>(simp only[BV]at h;cases h)
 | load t x=>
  simp only[Ad]at h
  split at h
  ·rename_i hs
   simp only[BV]at h
   split at h
   ·rename_i b off hx
    simp only[AQ.injEq]at h;subst h
    obtain⟨i,hi,hev⟩:=IG (a:=a) he hg hx
    obtain⟨h1,h2⟩:=KK (P:=P) hs w
    refine⟨_,Dn (x:=[]) rfl,val ?_⟩
    unfold Instr.loadAt loadVar
    have h0:∀b:Addr,(loadCells b 0).run P w = .ok #[] w:=fun b=>rfl
    simp[Instr.sureAddr,hev,h1,h2 0 rfl,h0]
   ·cases h
  ·simp only[BV]at h;cases h
  ·simp only[BV]at h;cases h
 | store t x y=>simp only[Ad]at h;(repeat' split at h)<;>(simp only[BV]at h;cases h)
 | box t x=>simp only[Ad]at h;(repeat' split at h)<;>(simp only[BV]at h;cases h)
 | makeMap t r=>cases r<;>(simp only[Ad,BV]at h;cases h)
 | lookup t x y ok=>cases ok<;>simp only[Ad]at h<;>first | (simp only[BV]at h;cases h;done) | ((repeat' split at h)<;>(simp only[BV]at h;cases h))
 | mapUpdate t x y z=>simp only[Ad]at h;(repeat' split at h)<;>(simp only[BV]at h;cases h)
 | _=>simp only[Ad,BV]at h;cases h
end Go.Og
namespace Go.Og
variable {P:Program} {G:Nat->Bool} {R:Cz} {e:B6} {a:Act} {C:Cx} {U:H} {w:World}
theorem Dt.globOk (h:Dt C R U w):Dz C.G R:=h.glob
theorem OH {b k:Nat} {arr:Array Value} {el:TypeId} {fr:Nat × Nat} (h:w.heap[b]? = some (.cells arr el fr)):w.cell? ⟨b,k,none⟩=arr[k]? := by
 simp[World.cell?,h]
theorem Hr.cells {l:List V} {s off n:Nat} {arr:Array Value} (h:Hr R s l arr) (hn:off+n<=l.length) :
  ∃xs,A1 R ((l.drop off).take n)=some xs/\(∀x∈xs,x.oneCell'=true)/\∀j v,xs[j]? = some v->arr[s+off+j]? = some v:=by
 induction n generalizing off with
 | zero=>exact⟨[],by simp[A1],by simp,by simp⟩
 | succ n ih=>
  obtain⟨xs,h1,h2,h3⟩:=ih (off:=off+1) (by omega)
  have hlt:off<l.length:=by omega
  obtain⟨x,hx,hone,hax⟩:=h off l[off] (AM hlt)
  refine⟨x::xs,?_,?_,?_⟩
  ·rw[DB hlt,List.take_succ_cons]
   exact Be.2 ⟨x,xs,hx,h1,rfl⟩
  ·intro y hy
   rcases Ax.1 hy with rfl|hy
   ·exact hone
   ·exact h2 y hy
  ·intro j v hj
   cases j with
   | zero=>simp at hj;subst hj;simpa using hax
   | succ j=>simp at hj;have:=h3 j v hj;rw[show s+off+(j+1)=s+(off+1)+j by omega];exact this
theorem Dt.readN (h:Dt C R U w) {id off n:Nat} {l:List V} (hl:Lq C.E U id off n=some l) :
  ∃i xs,R id=some i/\A1 R l=some xs/\(∀x∈xs,x.oneCell'=true)/\xs.length=n/\l.length=n/\∀j v,xs[j]? = some v->w.cell? ((⟨i.blk,i.shift+off,none⟩:Addr).add j)=some v:=by
 unfold Lq at hl
 cases hr:rd C.E U id with
 | none=>rw[hr]at hl;cases hl
 | some m=>
  rw[hr]at hl
  simp only at hl
  split at hl
  ·rename_i hb
   simp only[Ac]at hb
   cases hl
   obtain⟨i,arr,el,fr,hi,hblk,hold⟩:=h.read hr
   obtain⟨xs,h1,h2,h3⟩:=hold.cells hb
   have hlen:((m.drop off).take n).length=n:=by simp;omega
   refine⟨i,xs,hi,h1,h2,by rw[Bh h1,hlen],hlen,fun j v hj=>?_⟩
   rw[add_eq,OH hblk]
   exact h3 j v hj
  ·cases hl
theorem PK:∀{l:List V} {s:List UInt8} {xs:List Value},FV l=some s->A1 R l=some xs ->
  ∃ns:List Int,xs=ns.map (Value.int .u8)/\s=ns.map fun n=>UInt8.ofNat n.toNat
 | [],s,xs,h,hc=>by
  simp only[FV,AQ.injEq]at h;subst h
  simp only[A1,AQ.injEq]at hc;subst hc
  exact⟨[],rfl,rfl⟩
 | v::l,s,xs,h,hc=>by
  unfold FV at h
  split at h
  ·rename_i heq;cases heq
  ·rename_i n l' heq
   cases heq
   simp only[Aa]at h
   obtain⟨r,hr,rfl⟩:=h
   obtain⟨x,ys,hx,hy,rfl⟩:=Be.1 hc
   cases hx
   obtain⟨ns,h1,h2⟩:=PK hr hy
   exact⟨n::ns,by rw[h1];rfl,by rw[h2];rfl⟩
  ·cases h
theorem Mu {t:TypeId} {l:List (Nat × FK)} (h:QU P t = .flat l):∃fs:Array Field,P.underlying t=some (.struct fs)/\P.stoodInHeld t=false/\G3 P fs.toList=some l:=by
 unfold QU at h
 split at h
 ·rename_i fs hu
  refine⟨fs,hu,?_⟩
  unfold FN at h
  cases hs:(P.stoodInHeld t || P.eqGuardType P.depth t)with
  | true=>rw[hs]at h;cases h
  | false=>
   rw[hs]at h
   simp only[Bd]at hs
   cases hf:G3 P fs.toList with
   | none=>rw[hf]at h;cases h
   | some l'=>
    rw[hf]at h
    simp only[Fp.flat.injEq]at h;subst h
    exact⟨hs.1,rfl⟩
 ·cases h
theorem Mx {tg:Fp} {x y:V} {b:Bool} (h:eqM tg x y=some b):∃l xs ys,tg = .flat l/\x = .agg xs/\y = .agg ys/\G4 l xs ys=some b:=by
 unfold eqM at h
 split at h
 ·exact⟨_,_,_,rfl,rfl,rfl,h⟩
 ·cases h
theorem xt {t:TypeId} {x y:V} {b:Bool} (h:eqM (QU P t) x y=some b) {u v:Value} (hu:Ao R x=some u) (hv:Ao R y=some v) (w:World) :
  (Op.equal t u v).run P w = .ok b w:=by
 obtain⟨l,xs,ys,htg,rfl,rfl,he⟩:=Mx h
 obtain⟨fs,hut,hs,hfl⟩:=Mu htg
 obtain⟨X,hX,rfl⟩:=Hp hu
 obtain⟨Y,hY,rfl⟩:=Hp hv
 have hfo:P.fieldsOf t=fs:=by simp[Program.fieldsOf,hut]
 show (Op.equalIn 10000 t (.agg X.toArray) (.agg Y.toArray)).run P w = .ok b w
 rw[run_equalIn_agg w 9999 t _ _ (by rw[hfo];exact hut) hs,hfo]
 exact KW hX hY 9998 w hfl he
theorem il {t:TypeId} {d:TypeDesc} {k:FK} (hu:P.underlying t=some d) (hd:iq d k=true) (em:Bool) (n:Nat) (x:Value) (w:World) :
  (Instr.checkKey em (n+1) t x).run P w = .ok () w:=by
 unfold Instr.checkKey
 simp only[Sem.run_bind,run_underlying hu,Result.andThen_ok]
 cases d<;>first | (cases k<;>cases hd;done) | simp
theorem Mw {xs ys:List V} {X Y:List Value} (hX:A1 R xs=some X) (hY:A1 R ys=some Y):∀{fs:List Field} {l:List (Nat × FK)} {b:Bool},
  G3 P fs=some l->G4 l xs ys=some b->∀(em:Bool) (w:World),∀f∈fs,f.name ≠ "_" -> ∃y,(part f.type X.toArray f.offset).run P w = .ok y w/\(Instr.checkKey em 9999 f.type y).run P w = .ok () w
 | [],l,b,hl,h,em,w,f,hf,_=>by cases hf
 | g::fs,l,b,hl,h,em,w,f,hf,hn=>by
  simp only[G3]at hl
  by_cases hg:g.name = "_"
  ·have hb:(g.name == "_")=true:=by simp[hg]
   rw[hb]at hl
   rcases Ax.1 hf with rfl|hf
   ·exact absurd hg hn
   ·exact Mw hX hY hl h em w f hf hn
  ·have hb:(g.name == "_")=false:=by simp[hg]
   rw[hb]at hl
   cases hr:G3 P fs with
   | none=>rw[hr]at hl;cases hl
   | some r=>
    rw[hr]at hl
    cases hu:P.underlying g.type with
    | none=>simp only[hu]at hl;cases hl
    | some d=>
     simp only[hu]at hl
     have hk:∃k,l=(g.offset,k)::r/\iq d k=true:=by
      cases d<;>simp only[AQ.injEq,reduceCtorEq]at hl<;>subst hl<;>exact⟨_,rfl,rfl⟩
     obtain⟨k,rfl,hk⟩:=hk
     simp only[G4]at h
     cases hc:LX k (JA xs g.offset) (JA ys g.offset)with
     | none=>simp only[hc]at h;cases h
     | some a=>
      simp only[hc]at h
      cases hf':G4 r xs ys with
      | none=>simp only[hf']at h;cases h
      | some b'=>
       obtain⟨hlu,hlv⟩:=NT hc
       rcases Ax.1 hf with rfl|hf
       ·obtain⟨x,hx,hpx⟩:=Mp (P:=P) hu hk hX rfl hlu w
        exact⟨x,hpx,il hu hk em 9998 x w⟩
       ·exact Mw hX hY hr hf' em w f hf hn
theorem NU {t:TypeId} {x:V} (h:Qu (QU P t) x=true) {u:Value} (hu:Ao R x=some u) (em:Bool) (w:World) :
  (Instr.checkKey em 10000 t u).run P w = .ok () w:=by
 unfold Qu at h
 split at h
 ·rename_i b hb
  obtain⟨l,xs,ys,htg,rfl,hy,he⟩:=Mx hb
  cases hy
  obtain⟨fs,hut,hs,hfl⟩:=Mu htg
  obtain⟨X,hX,rfl⟩:=Hp hu
  have hut':=hut
  clear htg hb h hut hs hu
  have key:(Instr.checkKey em (9999+1) t (.agg X.toArray)).run P w = .ok () w:=by
   unfold Instr.checkKey
   simp only[Sem.run_bind,run_underlying hut',Result.andThen_ok]
   rw[<-Array.forIn_toList]
   have hall:∀f∈fs.toList,f.name ≠ "_" -> ∃y,(part f.type X.toArray f.offset).run P w = .ok y w/\(Instr.checkKey em 9999 f.type y).run P w = .ok () w:=Mw hX hX hfl he em w
   generalize fs.toList=L at hall
   induction L with
   | nil=>simp
   | cons f L ih=>
    have ih:=ih (fun y hy=>hall y (by simp[hy]))
    by_cases hn:f.name = "_"
    ·simp only[List.forIn_cons,Sem.run_bind,hn,ne_eq,not_true_eq_false,if_false,Result.andThen_ok,Sem.run_pure]
     exact ih
    ·obtain⟨y,p1,p2⟩:=hall f (by simp) hn
     simp only[List.forIn_cons,Sem.run_bind,hn,ne_eq,not_false_eq_true,if_true,Result.andThen_ok,p1,p2,Sem.run_pure]
     exact ih
  exact key
 ·cases h
theorem MH {t:TypeId} {fs:Array Field} (hut:P.underlying t=some (.struct fs)) {k:V} {u:Value} (hu:Ao R k=some u) (w:World):∀{l:List (V × V)} {es:List MapEntry} {r:Option V} (i:Nat),
  Qx (QU P t) k l=some r->C4 R l es ->
  (match r with
   | none=>(Instr.findAsking t u es i).run P w = .ok none w
   | some v=>∃j x,Ao R v=some x/\(Instr.findAsking t u es i).run P w = .ok (some (j,x)) w)
 | [],[],r,i,h,_=>by
  simp only[Qx,AQ.injEq]at h;subst h
  simp[Instr.findAsking]
 | (q,v)::l,e::es,r,i,h,hm=>by
  obtain⟨hq,hv,hm⟩:=hm
  simp only[Qx]at h
  cases hb:eqM (QU P t) k q with
  | none=>rw[hb]at h;cases h
  | some b=>
   rw[hb]at h
   have he:=xt (P:=P) hb hu hq w
   cases b with
   | true=>
    simp only[AQ.injEq]at h;subst h
    exact⟨i,e.val,hv,by simp[Instr.findAsking,he]⟩
   | false=>
    simp only at h
    have ih:=MH hut hu w (i+1) h hm
    cases r with
    | none=>simpa[Instr.findAsking,he]using ih
    | some v'=>simpa[Instr.findAsking,he]using ih
 | [],_::_,_,_,_,hm=>hm.elim
 | _::_,[],_,_,_,hm=>hm.elim
theorem LU {t:TypeId} {fs:Array Field} (hut:P.underlying t=some (.struct fs)) (x:Value) (es:List MapEntry) (w:World) :
  (Instr.findKey t x es).run P w=(Instr.findAsking t x es).run P w:=by
 cases es with
 | nil=>simp[Instr.findKey,run_underlying hut,Instr.findNow,Instr.findAsking]
 | cons e es=>simp[Instr.findKey,run_underlying hut,Instr.findNow,Instr.sameNow]
theorem Ox {t:TypeId} {x:V} (h:Qu (QU P t) x=true):x.live=true/\∃fs:Array Field,P.underlying t=some (.struct fs):=by
 unfold Qu at h
 split at h
 ·rename_i b hb
  obtain⟨l,xs,ys,htg,rfl,hy,he⟩:=Mx hb
  obtain⟨fs,hut,_⟩:=Mu htg
  exact⟨rfl,fs,hut⟩
 ·cases h
theorem cd {t:TypeId} (h:(OQ P t).live=true) (w:World):∃z,(zeroValue t).run P w = .ok z w/\Ao R (OQ P t)=some z:=by
 unfold OQ at h ⊢
 cases hi:P.info? t with
 | none=>rw[hi]at h;cases h
 | some i=>
  rw[hi]at h
  cases hz:i.zero with
  | none=>simp only[hz]at h;cases h
  | some z=>
   simp only[hz]at h
   exact⟨z,by simp[zeroValue,typeInfo,hi,hz],by simpa only [hz]using ZB R z h⟩
theorem Dt.mapAt (h:Dt C R U w) {b:Nat} {l:List (V × V)} (hl:look U.bl b=some (.map l)):∃i es clock,R b=some i/\w.heap[i.blk]? = some (.map es clock)/\C4 R l es.toList:=by
 obtain⟨i,hi,_,es,clock,hw,hm⟩:=h.own b _ hl
 exact⟨i,es,clock,hi,hw,hm⟩
theorem dN (hrel:Dt C R U w) {t k el:TypeId} (hut:P.underlying t=some (.map k el)) {m x v:V} (h:L9 (QU P k) (OQ P el) m x U=some v)
  {mv xv:Value} (hm:m.live=true->Ao R m=some mv) (hx:x.live=true->Ao R x=some xv) :
  ∃y,Ao R v=some y/\(Instr.lookup t mv xv true).run P w = .ok y w:=by
 unfold L9 at h
 split at h
 ·rename_i b
  split at h
  ·rename_i l hl
   split at h
   ·rename_i hk
    obtain⟨hlx,fs,hfs⟩:=Ox hk
    have hxv:=hx hlx
    obtain⟨i,es,clock,hi,hw,hmh⟩:=hrel.mapAt hl
    obtain⟨j,hj,hmv⟩:=H5 (hm rfl)
    rw[hi]at hj;cases hj
    subst hmv
    have hget:(getObj i.blk).run P w = .ok (.map es clock) w:=by simp[getObj,Sem.run,hw]
    have hck:=NU (P:=P) hk hxv es.isEmpty w
    unfold Instr.lookup
    split at h
    ·rename_i u hf
     simp only[AQ.injEq]at h;subst h
     obtain⟨j,y,hy,hfa⟩:=MH hfs hxv w 0 hf hmh
     refine⟨_,J3 (Be.2 ⟨y,_,hy,Be.2 ⟨.bool true,[],rfl,rfl,rfl⟩,rfl⟩),?_⟩
     simp[run_underlying hut,hget,hck,LU hfs,hfa]
    ·rename_i hf
     split at h
     ·rename_i hz
      simp only[AQ.injEq]at h;subst h
      obtain⟨z,hzr,hzc⟩:=cd (P:=P) (R:=R) hz w
      have hfa:=MH hfs hxv w 0 hf hmh
      simp only at hfa
      refine⟨_,J3 (Be.2 ⟨z,_,hzc,Be.2 ⟨.bool false,[],rfl,rfl,rfl⟩,rfl⟩),?_⟩
      simp[run_underlying hut,hget,hck,LU hfs,hfa,hzr]
     ·cases h
    ·cases h
   ·cases h
  ·cases h
 ·cases h
theorem Uz {s:TypeId} {fs:Array Field} {f:Nat} {fd:Field} (hu:P.underlying s=some (.struct fs)) (hf:fs[f]? = some fd) (hz:GH P fd.type=some 0)
  (ho:fd.offset=0) (hb:fd.byteOffset=0) (hc:P.cellsOf s=0) {v:Value} {blk sh:Nat} (hv:v = .pointer (some ⟨blk,sh,none⟩)) {fr:Nat × Nat} (hblk:w.heap[blk]? = some (.cells #[] s fr)) :
  (Instr.fieldAt s v f).run P w = .ok (.pointer (some ⟨blk,sh,none⟩)) w:=by
 subst hv
 have hby:∀o,(byteOf ⟨blk,o,none⟩).run P w = .ok 0 w:=fun o=>by
  have hsh:w.shape? blk=some (s,0):=by simp[World.shape?,hblk]
  unfold byteOf noView viewAt
  simp[hsh,hc]
 unfold Instr.fieldAt fieldPlace partAt
 simp[run_underlying hu,hf,Instr.sureAddr,ES hz w,ho,hb,hby]
theorem MQ (hrel:Dt C R U w) (he:B7 R e a.tmps) (o:Oper) {v:V} (h:Cf C.E (Ad P C.G o.op) e U=some v) :
  ∃x,Ao R v=some x/\(execOp a.eval o).run P w = .ok (.value x) w:=by
 have hg:=hrel.globOk
 have val:∀{s:Sem Value} {x:Value},s.run P w = .ok x w->(do pure (Next.value (<-s)):Sem Next).run P w = .ok (.value x) w:=fun hs=>by simp[hs]
 obtain⟨dst,op,ty,pos,after,guard⟩:=o
 simp only at h
 cases op with
 | load t x=>
  simp only[Ad]at h
  cases hs:Gj P t with
  | none=>rw[hs]at h;cases h
  | some s=>
   rw[hs]at h
   have h:Cf C.E (match s with | some 0=>Eb.load0 (Al C.G x) | s=>Eb.load s (Al C.G x)) e U=some v:=by
    cases s with
    | none=>exact h
    | some n=>cases n<;>exact h
   obtain⟨h1,h2⟩:=KK (P:=P) hs w
   cases s with
   | none=>
    simp only[Cf]at h
    split at h
    ·rename_i b off hx
     split at h
     ·rename_i l hr
      obtain⟨j,hj,hev⟩:=IG (a:=a) he hg hx
      obtain⟨i,arr,el,fr,hi,hblk,hold⟩:=hrel.read hr
      rw[hj]at hi;cases hi
      obtain⟨y,hy,hone,hay⟩:=hold off v h
      refine⟨y,hy,val ?_⟩
      have hc:w.cell? ⟨j.blk,j.shift+off,none⟩=some y:=by rw[OH hblk];exact hay
      unfold Instr.loadAt loadVar
      simp[Instr.sureAddr,hev,h1,hc]
     ·cases h
    ·cases h
   | some n=>
    cases n with
    | zero=>simp only[Cf]at h;cases h
    | succ n=>
    simp only[Cf]at h
    split at h
    ·rename_i b off hx
     split at h
     ·rename_i l hr;cases h
      obtain⟨j,hj,hev⟩:=IG (a:=a) he hg hx
      obtain⟨i,xs,hi,hc,_,hlen,_,hcell⟩:=hrel.readN hr
      rw[hj]at hi;cases hi
      refine⟨_,Dn hc,val ?_⟩
      have hl:=run_loadCells_list (P:=P) w ⟨j.blk,j.shift+off,none⟩ xs hcell
      rw[hlen]at hl
      unfold Instr.loadAt loadVar
      simp[Instr.sureAddr,hev,h1,h2 _ rfl,hl]
     ·cases h
    ·cases h
 | convert s d x=>
  simp only[Ad]at h
  unfold rY at h
  split at h
  ·simp only[Cf]at h;cases h
  ·simp only[Cf]at h;cases h
  ·split at h<;>(simp only[Cf]at h;cases h)
  ·rename_i el hs hd
   split at h
   ·rename_i hel
    simp only[Cf]at h
    split at h
    ·cases h
    rename_i hnostr
    split at h
    ·rename_i q l hsrc
     split at h
     ·rename_i str hb
      cases h
      refine⟨_,rfl,val ?_⟩
      unfold C1 at hsrc
      split at hsrc
      ·rename_i hx
       have hc:=ev (a:=a) he hg hx rfl
       simp only[Ao,AQ.injEq]at hc
       cases hsrc
       simp only[FV,AQ.injEq]at hb;subst hb
       rw[<-hc,run_convert_bytes_nil w s el hs hel 0 0 d hd];rfl
      ·rename_i b off k z hx
       obtain⟨i,_,_,hev⟩:=Ef (ev (a:=a) he hg hx rfl)
       cases hsrc
       simp only[FV,AQ.injEq]at hb;subst hb
       rw[hev,run_convert_bytes_string w s d el _ 0 _ hs hel hd,run_bytesToString w _ 0 _ [] (by simp[loadCells,loadCellsFrom])]
       rfl
      ·rename_i b off len c hx
       simp only[Aa]at hsrc
       obtain⟨l',hrd,heq⟩:=hsrc
       cases heq
       obtain⟨i,m,hi,hev,_⟩:=DG (ev (a:=a) he hg hx rfl)
       obtain⟨i',xs,hi',hc,_,hlen,_,hcell⟩:=hrel.readN hrd
       rw[hi]at hi';cases hi'
       obtain⟨ns,rfl,rfl⟩:=PK hb hc
       have hl:=run_loadCells_list (P:=P) w ⟨i.blk,i.shift+off,none⟩ _ hcell
       rw[hlen,B8]at hl
       rw[hev,run_convert_bytes_string w s d el _ _ _ hs hel hd,run_bytesToString w _ _ _ ns hl,foldl_push_bytes]
       congr 2
       apply ByteArray.ext
       show #[]++_=_
       simp[BS.toList_ofList]
      ·rename_i l' hx
       exact(hnostr (by rw[hx];rfl)).elim
      ·cases hsrc
     ·cases h
    ·cases h
   ·simp only[Cf]at h;cases h
  ·simp only[Cf]at h;cases h
 | call c=>
  obtain⟨callee,args,argTypes⟩:=c
  cases callee with
  | value f=>cases f<;>(simp only[Ad,Cf]at h;cases h)
  | invoke r m=>simp only[Ad,Cf]at h;cases h
  | builtin b=>
   simp only[Ad,Kn]at h
   have hno:∀(q:Bool) (e1:TypeId) (n m:Nat) (x y:AO),Cf C.E (if q=true then Eb.bad else Eb.append e1 n m x y) e U≠some v:=by
    intro q e1 n m x y;cases q<;>simp[Cf]
   split at h
   ·(repeat' split at h)<;>(simp only[Cf]at h;cases h)
   ·(repeat' split at h)<;>(simp only[Cf]at h;cases h)
   ·split at h
    ·split at h
     ·split at h
      ·exact(hno _ _ _ _ _ _ h).elim
      ·simp only[Cf]at h;cases h
     ·simp only[Cf]at h;cases h
    ·simp only[Cf]at h;cases h
   ·(repeat' split at h)<;>(simp only[Cf]at h;cases h)
   ·simp only[Cf]at h;cases h
   ·simp only[Cf]at h;cases h
   ·simp only[Cf]at h;cases h
 | fieldAddr st x f=>
  simp only[Ad]at h
  split at h
  ·rename_i fs hu
   split at h
   ·rename_i fd hf
    split at h
    ·rename_i hz
     split at h
     ·rename_i hc
      simp only[AG,beq_iff_eq]at hc
      simp only[Cf]at h
      unfold OF at h
      split at h
      ·rename_i b hx
       split at h
       ·rename_i t' hb
        split at h
        ·rename_i ht
         have ht:=Bo ht
         subst ht
         simp only[AQ.injEq]at h;subst h
         obtain⟨i,hi,_,fr,hblk⟩:=hrel.own b _ hb
         obtain⟨j,hj,hev⟩:=IG (a:=a) he hg hx
         rw[hi]at hj;cases hj
         refine⟨_,DH hi,val ?_⟩
         exact Uz hu hf hz hc.1.1 hc.1.2 hc.2 hev hblk
        ·cases h
       ·cases h
      ·cases h
     ·simp only[Cf]at h;cases h
    ·simp only[Cf]at h;cases h
    ·simp only[Cf]at h;cases h
   ·simp only[Cf]at h;cases h
  ·simp only[Cf]at h;cases h
 | lookup t x y ok=>
  cases ok with
  | false=>simp only[Ad,Cf]at h;cases h
  | true=>
   simp only[Ad]at h
   split at h
   ·rename_i k el hut
    simp only[Cf]at h
    obtain⟨z,hz,hrun⟩:=dN (P:=P) hrel hut h (fun hl=>ev (a:=a) he hg rfl hl) (fun hl=>ev (a:=a) he hg rfl hl)
    exact⟨z,hz,val hrun⟩
   ·simp only[Cf]at h;cases h
 | makeMap t r=>cases r<;>(simp only[Ad,Cf]at h;cases h)
 | move x=>simp only[Ad,Cf]at h;cases h
 | assign x=>simp only[Ad,Cf]at h;cases h
 | makeFunc f x y=>cases f<;>(simp only[Ad,Cf]at h;cases h)
 | _=>simp only[Ad]at h;first | (simp only[Cf]at h;cases h;done) | ((repeat' split at h)<;>(simp only[Cf]at h;cases h))
theorem Hr.of_concs {l:List V} {xs:List Value} {arr:Array Value} (h:A1 R l=some xs) (h1:∀x∈xs,x.oneCell'=true) (ha:∀k,k<xs.length->arr[k]? = xs[k]?):Hr R 0 l arr:=by
 intro k v hk
 obtain⟨x,hx,hkx⟩:=EU h hk
 have hlt:k<xs.length:=by
  rcases Av k xs.length with h|h
  ·exact h
  ·rw[BF h]at hkx;cases hkx
 exact⟨x,hx,h1 x (DA hkx),by rw[BA,ha k hlt];exact hkx⟩
theorem HZ:∀{l:List V} {xs:List Value},An l=true->A1 R l=some xs->∀x∈xs,x.oneCell'=true
 | [],xs,_,hc=>by simp only[A1,AQ.injEq]at hc;subst hc;simp
 | v::l,xs,h,hc=>by
  obtain⟨x,ys,hx,hy,rfl⟩:=Be.1 hc
  simp only[An,AG]at h
  intro y hm
  rcases Ax.1 hm with rfl|hm
  ·exact(VJ h.1 hx).2
  ·exact HZ h.2 hy y hm
theorem HT {w':World} {l:List V} {xs:List Value} {arr:Array Value} {el:TypeId} {lo hi endc n:Nat} (hb:w'.heap[n]? = some (.cells arr el (lo,hi)))
  (h:A1 R l=some xs) (h1:∀x∈xs,x.oneCell'=true) (ha:∀k,k<xs.length->arr[k]? = xs[k]?) (he:endc<=arr.size) (hl:l.length<=endc)
  (hf:∀off,off<arr.size->¬(lo<=off/\off<hi)):FB R ⟨n,0,endc⟩ (.cells l) w':=
 ⟨arr,el,lo,hi,hb,Hr.of_concs h h1 ha,by simpa using he,hl,hf⟩
theorem VT {x:Value} (h:(Eu x).live=true):(Eu x).one=true:=by
 unfold Eu at h ⊢
 split at h<;>first | rfl | (cases h)
theorem jw {x:Value} {l:List V} (h:jx x=some l):An l=true:=by
 unfold jx at h
 split at h
 ·rename_i hall
  cases h
  generalize x.cells.toList=m at hall ⊢
  induction m with
  | nil=>rfl
  | cons y m ih=>
   simp only[B3,Jf,AG,An]at hall ⊢
   exact⟨VT hall.1,ih hall.2⟩
 ·cases h
theorem QY {t:TypeId} {l:List V} (h:Jg P t=some l):An l=true:=by
 unfold Jg at h
 cases hi:P.info? t with
 | none=>rw[hi]at h;cases h
 | some i=>
  rw[hi]at h
  cases hz:i.zero with
  | none=>simp only[hz]at h;cases h
  | some z=>simp only[hz]at h;exact jw h
theorem Dl (w:World) (o:Obj):(w.alloc o).heap[w.heap.size]? = some o:=by simp[World.alloc,-World.alloc_eq]
theorem EV {z:List V} {zs:List Value} (h:A1 R z=some zs):∀n,A1 R (As n z).flatten=some (As n zs).flatten
 | 0=>rfl
 | n+1=>by simp only[NJ,AJd];exact HE h (EV h n)
theorem Ko:∀{l m:List V},An l=true->An m=true->An (l++m)=true
 | [],m,_,hm=>hm
 | v::l,m,hl,hm=>by
  simp only[An,GG,AG]at hl ⊢
  exact⟨hl.1,Ko hl.2 hm⟩
theorem FQ {z:List V} (h:An z=true):∀n,An (As n z).flatten=true
 | 0=>rfl
 | n+1=>by simp only[NJ,AJd];exact Ko h (FQ h n)
theorem pk (zs:List Value) (n k:Nat) (hk:k<n*zs.length):(As n zs).flatten[k]? = zs[k % zs.length]? := by
 induction n generalizing k with
 | zero=>omega
 | succ n ih=>
  simp only[NJ,AJd]
  have hz:0<zs.length:=by
   rcases QJ zs.length with h|h
   ·rw[h]at hk;omega
   ·exact h
  by_cases h:k<zs.length
  ·rw[CR h,CY h]
  ·have hmul:(n+1)*zs.length=n*zs.length+zs.length:=Nat.succ_mul n zs.length
   rw[BR (by omega),ih _ (by omega)]
   congr 1
   exact(Nat.mod_eq_sub_mod (by omega)).symm
theorem Qh (zs:Array Value) (n:Nat):(Array.range (n*zs.size)).map (fun i=>zs[i % zs.size]!)=(As n zs.toList).flatten.toArray:=by
 apply Gh
 apply HL
 intro k
 simp only[Array.toList_map,Array.toList_range,Aw]
 by_cases hk:k<n*zs.size
 ·rw[om hk,pk _ _ _ (by simpa using hk)]
  simp only[CC,Eg]
  have hz:0<zs.size:=by
   rcases QJ zs.size with h|h
   ·rw[h]at hk;omega
   ·exact h
  have hlt:k % zs.size<zs.size:=QI _ hz
  simp[hlt]
 ·rw[BF (by simp;omega),BF (by simp;omega)]
  rfl
end Go.Og
namespace Go.Og
variable {P:Program} {G:Nat->Bool} {R:Cz} {e:B6} {a:Act} {C:Cx} {U:H} {w:World}
theorem FF.bytes (w:World) (el:TypeId) (s:ByteArray):FF w (Lib.bytesWorld w el s):=
 ⟨fun k hk=>Lib.bytesWorld_at_old w el s k hk,Lib.bytesWorld_size w el s,by simp[Lib.bytesWorld,World.freeze,World.alloc,World.drew,-World.alloc_eq,-World.drew_eq],by simp[Lib.bytesWorld,World.freeze,World.alloc,World.drew,-World.alloc_eq,-World.drew_eq],by simp[Lib.bytesWorld,World.freeze,World.alloc,World.drew,-World.alloc_eq,-World.drew_eq]⟩
theorem LR (R:Cz):∀l:List UInt8,A1 R (dS l)=some (l.map fun b=>Value.int .u8 b.toNat)
 | []=>rfl
 | _::l=>Be.2 ⟨_,_,rfl,LR R l,rfl⟩
theorem LZ {b off n c:Nat} {i:BI} (h:R b=some i):Ao R (.sl b off n (.ex c))=some (.slice (some ⟨i.blk,i.shift+off,none⟩) n c):=by
 simp only[Ao,h,CC]
theorem Hn {b off n z:Nat} {i:BI} (h:R b=some i) (hn:n<=i.cap z off):Ao R (.sl b off n (.op z))=some (.slice (some ⟨i.blk,i.shift+off,none⟩) n (i.cap z off)):=by
 simp only[Ao,h,C0,if_pos hn]
theorem iQ (need old:Nat) (el:TypeId) (t:Nat):need<=(Question.appendCap need old el).cut t:=by simp[Question.cut]
theorem OI (he:B7 R e a.tmps) (hg:Dz G R) (o:Oper) {id:Nat} {v:V} {b:GM} (h:Cm (Ad P G o.op) e id=some (v,b)) (hid:R id=none) (w:World) :
  ∃x w' i,(execOp a.eval o).run P w = .ok (.value x) w'/\FF w w'/\i.blk=w.heap.size/\Ao (IP R id i) v=some x/\FB (IP R id i) i b w':=by
 have val:∀{s:Sem Value} {x:Value} {w':World},s.run P w = .ok x w'->(do pure (Next.value (<-s)):Sem Next).run P w = .ok (.value x) w':=fun hs=>by simp[hs]
 have hle:∀i,Le R (IP R id i):=fun i k j hk=>by
  by_cases he:k=id
  ·subst he;rw[hid]at hk;cases hk
  ·rw[Bp he];exact hk
 obtain⟨dst,op,ty,pos,after,guard⟩:=o
 simp only at h
 cases op with
 | alloc t=>
  simp only[Ad]at h
  cases hz:Jg P t with
  | none=>rw[hz]at h;simp only[Cm]at h;cases h
  | some z=>
   rw[hz]at h
   cases z with
   | nil=>
    simp only[Cm,AQ.injEq,Prod.mk.injEq]at h
    obtain⟨rfl,rfl⟩:=h
    obtain⟨zv,hzr,hzc⟩:=GQ (P:=P) (R:=R) hz w
    have hz0:zv.cells=#[]:=by
     have:=Bh hzc
     simp at this;simpa using this
    refine⟨_,_,⟨w.heap.size,0,0⟩,val ?_,FF.of_alloc w (.cells zv.cells t),rfl,DH (CN _ _ _),?_⟩
    ·unfold Instr.alloc
     simp[hzr,newVar,newRow]
    ·exact⟨(0,0),by rw[Dl,hz0]⟩
   | cons z0 z=>
   simp only[Cm,AQ.injEq,Prod.mk.injEq]at h
   obtain⟨rfl,rfl⟩:=h
   obtain⟨zv,hzr,_⟩:=GQ (P:=P) (R:=R) hz w
   obtain⟨zv',hzr',hzc⟩:=GQ (P:=P) (R:=IP R id ⟨w.heap.size,0,zv.cells.size⟩) hz w
   rw[hzr]at hzr';cases hzr'
   refine⟨_,_,⟨w.heap.size,0,zv.cells.size⟩,val ?_,FF.of_alloc w (.cells zv.cells t),rfl,DH (CN _ _ _),?_⟩
   ·unfold Instr.alloc
    simp[hzr,newVar,newRow]
   ·refine HT (Dl w _) hzc (HZ (QY hz) hzc) (fun k _=>by simp) (AK _) ?_ (fun _ _ h=>by omega)
    have:=Bh hzc
    simp at this ⊢;omega
 | box t x=>
  simp only[Ad]at h
  split at h
  ·simp only[Cm]at h
   split at h
   ·rename_i hx
    simp only[AQ.injEq,Prod.mk.injEq]at h
    obtain⟨rfl,rfl⟩:=h
    obtain⟨l,hl,hev⟩:=Sd (a:=a) he hg hx
    simp only[A1,AQ.injEq]at hl;subst hl
    refine⟨_,_,⟨w.heap.size,0,0⟩,val ?_,FF.of_alloc w (.cells #[] t),rfl,DH (CN _ _ _),?_⟩
    ·unfold Instr.box
     simp[hev,newVar,newRow,Value.cells]
    ·exact⟨(0,0),by rw[Dl]⟩
   ·cases h
  ·simp only[Cm]at h
   split at h
   ·rename_i hl
    simp only[AG]at hl
    simp only[AQ.injEq,Prod.mk.injEq]at h
    obtain⟨rfl,rfl⟩:=h
    have hc:=ev (a:=a) he hg rfl hl.1
    have hcs:=Ho hc
    refine⟨_,_,⟨w.heap.size,0,(a.eval x).cells.size⟩,val ?_,FF.of_alloc w (.cells (a.eval x).cells t),rfl,DH (CN _ _ _),?_⟩
    ·unfold Instr.box
     simp[newVar,newRow]
    ·have hcs':=Ee (hle ⟨w.heap.size,0,(a.eval x).cells.size⟩) _ _ hcs
     refine HT (Dl w _) hcs' (HZ hl.2 hcs') (fun k _=>by simp) (AK _) ?_ (fun _ _ h=>by omega)
     have:=Bh hcs
     simp at this;omega
   ·cases h
 | buildSlice t n ps=>
  simp only[Ad]at h
  split at h
  ·rename_i el hu
   split at h
   ·rename_i s z hs hz
    cases hc:EW G (fun i=>some (i*s,s)) ps.toList with
    | none=>rw[hc]at h;simp only[Cm]at h;cases h
    | some l=>
     rw[hc]at h
     simp only at h
     split at h
     ·simp only[Cm]at h;cases h
     ·rename_i hcond
      simp only[Mb,Bd,decide_eq_false_iff_not,bne_eq_false_iff_eq]at hcond
      obtain⟨hsmall,hzl⟩:=hcond
      simp only[Cm]at h
      cases hf:Ez (Js e l) (As n z).flatten with
      | none=>rw[hf]at h;cases h
      | some r=>
       rw[hf]at h
       simp only at h
       split at h
       ·rename_i hone
        simp only[AQ.injEq,Prod.mk.injEq]at h
        obtain⟨rfl,rfl⟩:=h
        obtain⟨zv,hzr,hzc⟩:=GQ (P:=P) (R:=R) hz w
        have hzlen:zv.cells.size=s:=by have:=Bh hzc;simp at this;omega
        have hzz:=EV hzc n
        obtain⟨out,h1,h2,h3⟩:=OE (a:=a) he hg ps.toList l _ r (As n zv.cells.toList).flatten.toArray hc (by simpa using hzz) hf
        have hrun:(Instr.buildSlice t n (ps.map fun(i,x)=>(i,a.eval x))).run P w = .ok (.slice (some ⟨w.heap.size,0,none⟩) n n) (w.alloc (.cells out el)):=by
         have hmap:(ps.map (fun(x:Nat × Operand)=>(x.1,a.eval x.2))).toList=ps.toList.map (fun(x:Nat × Operand)=>(x.1,a.eval x.2)):=Array.toList_map
         unfold Instr.buildSlice
         simp only[Sem.run_bind,run_underlying hu,Result.andThen_ok,ES hs w]
         rw[if_neg (by simpa using hsmall)]
         by_cases h0:n*s=0
         ·rw[if_pos h0]
          simp only[Sem.run_pure,Result.andThen_ok,hmap]
          have hemp:(As n zv.cells.toList).flatten.toArray=#[]:=by
           apply Gh
           apply BW
           simp[hzlen,h0]
          rw[hemp]at h1
          have hr0:∀f:Nat->Value,(Array.range (n*s)).map f=#[]:=fun f=>by rw[h0];apply Gh;simp
          simp only[Sem.run_pure,Result.andThen_ok,hmap,hr0,h1,Sem.run_bind,newRow,run_newObj]
          rfl
         ·rw[if_neg h0]
          simp only[Sem.run_bind,hzr,Result.andThen_ok,Sem.run_pure,hmap]
          have hr:=Qh zv.cells n
          rw[hzlen]at hr
          simp only[hzlen,hr,h1,Sem.run_bind,newRow,run_newObj,Result.andThen_ok,Sem.run_pure]
          rfl
        refine⟨_,_,⟨w.heap.size,0,out.size⟩,val hrun,FF.of_alloc w _,rfl,?_,?_⟩
        ·exact LZ (CN _ _ _)
        ·have hcs':=Ee (hle ⟨w.heap.size,0,out.size⟩) _ _ h2
         refine HT (Dl w _) hcs' (HZ hone hcs') (fun k _=>by simp) (AK _) ?_ (fun _ _ h=>by omega)
         have:=Bh h2
         simp at this;omega
       ·cases h
   ·simp only[Cm]at h;cases h
  ·simp only[Cm]at h;cases h
 | convert s d x=>
  simp only[Ad]at h
  unfold rY at h
  split at h
  ·simp only[Cm]at h;cases h
  ·simp only[Cm]at h;cases h
  ·rename_i el hs hd
   split at h
   ·rename_i hel
    simp only[Cm]at h
    split at h
    ·rename_i l hx
     split at h
     ·simp only[AQ.injEq,Prod.mk.injEq]at h
      obtain⟨rfl,rfl⟩:=h
      have hev:=LW (a:=a) he hg hx
      rw[<-BS.length_toList]
      generalize l.toList=l at *
      have hsz:(ByteArray.mk l.toArray).size=l.length:=by simp[ByteArray.size]
      have hcap:l.length<=grownCap w l.length 0 el:=iQ _ _ _ _
      have hcells:(Lib.bytesCells w el ⟨l.toArray⟩).size=grownCap w l.length 0 el:=by
       simp[Lib.bytesCells,hsz];omega
      refine⟨_,_,⟨w.heap.size,0,(Lib.bytesCells w el ⟨l.toArray⟩).size⟩,val (by rw[hev];exact Lib.run_convert_string_bytes w s d el _ hs hd hel),FF.bytes w el _,rfl,?_,?_⟩
      ·rw[Hn (CN _ _ _) (by simp[BI.cap,hcells];exact hcap)]
       simp[BI.cap,hcells,hsz]
      ·refine HT (Lib.bytesWorld_at_new w el _) (LR _ l) (by simp;intro x _;rfl) (fun k hk=>?_) (AK _) (by rw[hcells];simpa[dS]using hcap) (fun off h1 h2=>by omega)
       simp only[CD]at hk
       simp[Lib.bytesCells,Array.getElem?_append,hk]
     ·cases h
    ·cases h
   ·simp only[Cm]at h;cases h
  ·split at h<;>(simp only[Cm]at h;cases h)
  ·simp only[Cm]at h;cases h
 | makeMap t r=>
  cases r with
  | some r=>simp only[Ad,Cm]at h;cases h
  | none=>
   simp only[Ad,Cm,AQ.injEq,Prod.mk.injEq]at h
   obtain⟨rfl,rfl⟩:=h
   refine⟨.map (some w.heap.size),w.alloc (.map #[] 0),⟨w.heap.size,0,0⟩,val ?_,FF.of_alloc w (.map #[] 0),rfl,by simp only[Ao,CN,CC],⟨#[],0,Dl w _,trivial⟩⟩
   simp[Instr.makeMap]
 | makeSlice t ln cp=>
  simp only[Ad]at h
  split at h
  ·rename_i el hu
   split at h
   ·rename_i i z hi hz
    split at h
    ·simp only[Cm]at h;cases h
    ·rename_i hzl
     simp only[Mb,bne_eq_false_iff_eq]at hzl
     simp only[Cm]at h
     split at h
     ·rename_i n c hn hc
      split at h
      ·rename_i hcond
       obtain⟨h0,h1,h2,h3⟩:=hcond
       simp only[AQ.injEq,Prod.mk.injEq]at h
       obtain⟨rfl,rfl⟩:=h
       obtain⟨zv,hzr,hzc⟩:=GQ (P:=P) (R:=R) hz w
       have hzlen:zv.cells.size=i.size:=by have:=Bh hzc;simp at this;omega
       have hzz:=EV hzc c.toNat
       have hwn:IntKind.i64.wrap n=n:=IntWalk.i64_in n ⟨by omega,by omega⟩
       have hwc:IntKind.i64.wrap c=c:=IntWalk.i64_in c ⟨by omega,by omega⟩
       have hrun:(Instr.makeSlice t (a.eval ln) (a.eval cp)).run P w = .ok (.slice (some ⟨w.heap.size,0,none⟩) n.toNat c.toNat) (w.alloc (.cells (As c.toNat zv.cells.toList).flatten.toArray el)):=by
        rw[Fy (a:=a) he hg hn,Fy (a:=a) he hg hc]
        unfold Instr.makeSlice
        have hti:(typeInfo el).run P w = .ok i w:=by simp[typeInfo,hi]
        have hsz:(sizeOf el).run P w = .ok i.size w:=by simp[sizeOf,typeInfo,hi]
        simp only[Sem.run_bind,run_underlying hu,Result.andThen_ok,asInt,asIntOf,Sem.run_pure,hti,hwn,hwc]
        have ht1:(decide (c<0) || decide ((i.bytes:Int)*c > 2 ^ 48))=false:=by
         rw[Int.mul_comm]at h2
         simp;omega
        have ht2:decide (n<0)=false:=by simp;omega
        have ht3:decide (n > c)=false:=by simp;omega
        simp only[ht1,ht2,ht3,Bool.or_false,Dc,DE,if_false,Sem.run_bind,run_askRoom,Result.andThen_ok,hsz]
        by_cases hz0:c.toNat*i.size=0
        ·rw[if_pos hz0]
         simp only[Sem.run_pure,Result.andThen_ok,newRow,Sem.run_bind,run_newObj,hz0]
         have hemp:(As c.toNat zv.cells.toList).flatten.toArray=#[]:=by
          apply Gh
          apply BW
          simp[hzlen,hz0]
         rw[hemp]
         have hr0:∀f:Nat->Value,(Array.range 0).map f=#[]:=fun f=>by apply Gh;simp
         rw[hr0];rfl
        ·rw[if_neg hz0]
         have hr:=Qh zv.cells c.toNat
         rw[hzlen]at hr
         simp only[Sem.run_bind,hzr,Result.andThen_ok,Sem.run_pure,newRow,run_newObj,hzlen,hr]
         rfl
       refine⟨_,_,⟨w.heap.size,0,(As c.toNat zv.cells.toList).flatten.length⟩,val hrun,FF.of_alloc w _,rfl,LZ (CN _ _ _),?_⟩
       have hcs':=Ee (hle ⟨w.heap.size,0,(As c.toNat zv.cells.toList).flatten.length⟩) _ _ hzz
       refine HT (Dl w _) hcs' (HZ (FQ (QY hz) _) hcs') (fun k _=>by simp) (by simp) ?_ (fun _ _ h=>by omega)
       have:=Bh hzz
       omega
      ·cases h
     ·cases h
   ·simp only[Cm]at h;cases h
  ·simp only[Cm]at h;cases h
 | call c=>
  obtain⟨callee,args,argTypes⟩:=c
  cases callee with
  | value f=>cases f<;>(simp only[Ad,Cm]at h;cases h)
  | invoke r m=>simp only[Ad,Cm]at h;cases h
  | builtin b'=>
   simp only[Ad,Kn]at h
   have hno:∀(q:Bool) (e1:TypeId) (n m:Nat) (x y:AO),Cm (if q=true then Eb.bad else Eb.append e1 n m x y) e id≠some (v,b):=by
    intro q e1 n m x y;cases q<;>simp[Cm]
   split at h
   ·(repeat' split at h)<;>(simp only[Cm]at h;cases h)
   ·(repeat' split at h)<;>(simp only[Cm]at h;cases h)
   ·split at h
    ·split at h
     ·split at h
      ·exact(hno _ _ _ _ _ _ h).elim
      ·simp only[Cm]at h;cases h
     ·simp only[Cm]at h;cases h
    ·simp only[Cm]at h;cases h
   ·(repeat' split at h)<;>(simp only[Cm]at h;cases h)
   ·simp only[Cm]at h;cases h
   ·simp only[Cm]at h;cases h
   ·simp only[Cm]at h;cases h
 | lookup t x y ok=>cases ok<;>simp only[Ad]at h<;>first | (simp only[Cm]at h;cases h;done) | ((repeat' split at h)<;>(simp only[Cm]at h;cases h))
 | move x=>simp only[Ad,Cm]at h;cases h
 | assign x=>simp only[Ad,Cm]at h;cases h
 | makeFunc f x y=>cases f<;>(simp only[Ad,Cm]at h;cases h)
 | _=>simp only[Ad]at h;first | (simp only[Cm]at h;cases h;done) | ((repeat' split at h)<;>(simp only[Cm]at h;cases h))
end Go.Og
namespace Go.Og
variable {P:Program} {G:Nat->Bool} {R:Cz} {e:B6} {a:Act} {C:Cx} {U:H} {w:World}
structure lj (b:Nat) (w w':World):Prop where
 old:∀k,k≠b->w'.heap[k]? = w.heap[k]?
 size:w'.heap.size=w.heap.size
 os:w'.os=w.os
 tape:w'.tape=w.tape
 output:w'.output=w.output
theorem Kk (b:Nat):∀(vs:List Value) (o:Nat) (w:World) (arr:Array Value) (el:TypeId) (fr:Nat × Nat),w.heap[b]? = some (.cells arr el fr) ->
  lj b w (w.setCells b o vs)/\∃arr':Array Value,(w.setCells b o vs).heap[b]? = some (.cells arr' el fr)/\arr'.size=arr.size /\
   ∀k,arr'[k]? = if o<=k/\k<o+vs.length/\k<arr.size then vs[k-o]? else arr[k]?
 | [],o,w,arr,el,fr,h=>⟨⟨fun _ _=>rfl,rfl,rfl,rfl,rfl⟩,arr,h,rfl,fun k=>by rw[if_neg (by simp;omega)]⟩
 | v::vs,o,w,arr,el,fr,h=>by
  have h1:(w.setCell ⟨b,o,none⟩ v).heap[b]? = some (.cells (arr.setIfInBounds o v) el fr):=by
   simp[World.setCell,Array.getElem?_modify,h]
  obtain⟨h2,arr',h3,h4,h5⟩:=Kk b vs (o+1) _ _ el fr h1
  refine⟨⟨fun k hk=>?_,?_,h2.os,h2.tape,h2.output⟩,arr',h3,by rw[h4,D4],fun k=>?_⟩
  ·rw[World.setCells,h2.old k hk]
   simp[World.setCell,Array.getElem?_modify,Ne.symm hk]
  ·rw[World.setCells,h2.size,World.size_setCell]
  ·rw[h5,D4,A2]
   by_cases hk:o=k
   ·subst hk
    rw[if_neg (by omega),if_pos rfl]
    by_cases hs:o<arr.size
    ·rw[if_pos hs,if_pos (by simp;omega)];simp
    ·rw[if_neg hs,if_neg (by omega),CH (by omega)]
   ·rw[if_neg hk]
    by_cases hc:o+1<=k/\k<o+1+vs.length/\k<arr.size
    ·rw[if_pos hc,if_pos (by simp;omega)]
     have:k-o=(k-(o+1))+1:=by omega
     rw[this,Bb]
    ·rw[if_neg hc,if_neg (by simp only[AN];omega)]
theorem OY {b o lo hi:Nat} {arr:Array Value} {el:TypeId} (h:w.heap[b]? = some (.cells arr el (lo,hi))) (hf:∀off,off<arr.size->¬(lo<=off/\off<hi))
  {xs:List Value} (h1:∀x∈xs,x.oneCell'=true) (hle:o+xs.length<=arr.size) :
  ∃w',(storeCells ⟨b,o,none⟩ xs).run P w = .ok () w'/\lj b w w'/\∃arr':Array Value,w'.heap[b]? = some (.cells arr' el (lo,hi))/\arr'.size=arr.size /\
   ∀k,arr'[k]? = if o<=k/\k<o+xs.length then xs[k-o]? else arr[k]? := by
 have hrun:=run_storeCells_cells (P:=P) b o xs 0 w
  (fun j hj=>by
   rw[OH h,JH]
   have:o+j<arr.size:=by omega
   simp[this])
  (fun j hj=>by
   have hlt:o+j<arr.size:=by omega
   simp only[World.frozen?,h,JH]
   have:=hf (o+j) hlt
   simp;omega) h1
 obtain⟨h2,arr',h3,h4,h5⟩:=Kk b xs (o+0) w arr el (lo,hi) h
 refine⟨_,hrun,h2,arr',h3,h4,fun k=>?_⟩
 rw[h5]
 simp only[JH]
 by_cases hc:o<=k/\k<o+xs.length
 ·rw[if_pos hc,if_pos (by omega)]
 ·rw[if_neg hc,if_neg (by omega)]
theorem OS (hrel:Dt C R U w) {b off:Nat} {l cs:List V} {xs:List Value} (hb:look U.bl b=some (.cells l)) (hcs:A1 R cs=some xs) (h1:An cs=true)
  (hle:off+cs.length<=l.length) {i:BI} (hi:R b=some i) :
  ∃w',(storeCells ⟨i.blk,i.shift+off,none⟩ xs).run P w = .ok () w'/\Dt C R (U.set b (.cells (FC l off cs))) w':=by
 obtain⟨j,hj,hO,arr,el,lo,hi',hblk,hold,hend,hlen,hf⟩:=hrel.own b _ hb
 rw[hi]at hj;cases hj
 have hxl:=Bh hcs
 have hone:=HZ h1 hcs
 obtain⟨w',hrun,hw,arr',h3,h4,h5⟩:=OY (P:=P) (o:=i.shift+off) hblk hf hone (by omega)
 refine⟨w',hrun,hrel.write hb hi ?_ hw.old hw.size hw.os hw.tape hw.output⟩
 refine⟨arr',el,lo,hi',h3,?_,by omega,by rw[Hd];exact hlen,fun o ho=>hf o (by omega)⟩
 intro k v hk
 rw[Lz]at hk
 by_cases hc:off<=k/\k<off+cs.length
 ·rw[if_pos hc,if_pos (by omega)]at hk
  obtain⟨x,hx,hkx⟩:=EU hcs hk
  refine⟨x,hx,hone x (DA hkx),?_⟩
  rw[h5,if_pos (by omega)]
  rw[show i.shift+k-(i.shift+off)=k-off by omega]
  exact hkx
 ·rw[if_neg hc]at hk
  obtain⟨x,hx,ho,hkx⟩:=hold k v hk
  refine⟨x,hx,ho,?_⟩
  rw[h5,if_neg (by omega)]
  exact hkx
theorem Oa (hrel:Dt C R U w) {esz n:Nat} {x:V} {l:List V} {u:Value} (h:C1 C.E U esz x=some (n,l)) (hu:Ao R x=some u) :
  ∃xs,A1 R l=some xs/\(∀y∈xs,y.oneCell'=true)/\(Builtin.lenOf u).run P w = .ok n w/\xs.length=n*esz /\
   ∀m,m<=n->(Builtin.firstCells esz m u).run P w = .ok (xs.take (m*esz)).toArray w:=by
 unfold C1 at h
 split at h
 ·cases h;cases hu
  exact⟨[],rfl,by simp,rfl,by simp,fun m hm=>by simp[Builtin.firstCells]⟩
 ·cases h
  obtain⟨i,_,_,rfl⟩:=Ef hu
  refine⟨[],rfl,by simp,rfl,by simp,fun m hm=>?_⟩
  have:m=0:=by omega
  subst this
  simp[Builtin.firstCells,loadCells,loadCellsFrom]
 ·rename_i b off len c
  simp only[Aa]at h
  obtain⟨l',hrd,heq⟩:=h
  cases heq
  obtain⟨i,m,hi,rfl,_⟩:=DG hu
  obtain⟨i',xs,hi',hc,hone,hlen,_,hcell⟩:=hrel.readN hrd
  rw[hi]at hi';cases hi'
  refine⟨xs,hc,hone,rfl,hlen,fun k hk=>?_⟩
  have hkl:k*esz<=xs.length:=by rw[hlen];exact EL _ hk
  have hl:=run_loadCells_list (P:=P) w ⟨i.blk,i.shift+off,none⟩ (xs.take (k*esz)) (fun j v hj=>by
   rw[Gg]at hj
   split at hj
   ·exact hcell j v hj
   ·cases hj)
  rw[BY,Em hkl]at hl
  simp only[Builtin.firstCells]
  exact hl
 ·rename_i s
  split at h
  ·rename_i he
   cases h;cases hu
   rw[<-BS.length_toList]
   generalize s.toList=s at *
   have hsz:(ByteArray.mk s.toArray).size=s.length:=by simp[ByteArray.size]
   refine⟨_,LR R s,by simp;intro x _;rfl,by simp[Builtin.lenOf,hsz],by simp[he],fun m hm=>?_⟩
   simp only[Builtin.firstCells,Sem.run_pure]
   congr 1
   apply Gh
   rw[he,B8,ByteArray.data_extract]
   simp[List.map_take]
  ·cases h
 ·cases h
theorem Wp {need old bytes:Nat} (h:old<need) (hg:Bw need bytes=true):Builtin.nextslicecap need old*bytes<=281474976710656/\(need:Int)<=9223372036854775807:=by
 simp only[Bw,AG,Ac]at hg
 exact⟨growslice_fits h hg.1,by omega⟩
set_option maxHeartbeats 800000 in
theorem Sc (hrel:Dt C R U w) {t u ty el:TypeId} {i:TypeInfo} {z:Value} (ht:P.underlying t=some (.slice el)) {du:TypeDesc} (hu:P.underlying u=some du)
  (hnot:du = .string\/∃d,du = .slice d) (hi:P.info? el=some i) (hz:i.zero=some z) (hzs:z.cells.size=i.size)
  {base:Option Addr} {sLen sCap n:Nat} {x:Value} {old new:List Value} {lo ln:List V}
  (hlo:A1 R lo=some old) (hln:A1 R ln=some new) (h1o:∀y∈old,y.oneCell'=true) (h1n:∀y∈new,y.oneCell'=true)
  (hold:old.length=sLen*i.size) (hnew:new.length=n*i.size)
  (hlen:(Builtin.lenOf x).run P w = .ok n w) (hgo:∀d,(Builtin.firstCells i.size sLen (.slice base sLen sCap)).run P { w with drawn:=d } = .ok old.toArray { w with drawn:=d })
  (hgn:∀d,(Builtin.firstCells i.size n x).run P { w with drawn:=d } = .ok new.toArray { w with drawn:=d })
  (hlt:sCap<sLen+n) (hgr:Bw (sLen+n) i.bytes=true) (_hpos:0<i.size) :
  ∃w' c,(Builtin.append_ #[t,u] ty #[.slice base sLen sCap,x]).run P w = .ok (.slice (some ⟨w.heap.size,0,none⟩) (sLen+n) c) w' /\
   Dt C (IP R U.next ⟨w.heap.size,0,c*i.size⟩) (U.add (.cells (lo++ln))) w'/\sLen+n<=c:=by
 obtain⟨hfit,h63⟩:=Wp hlt hgr
 have hzero:∀d,(zeroValue el).run P { w with drawn:=d } = .ok z { w with drawn:=d }:=fun d=>by simp[zeroValue,typeInfo,hi,hz]
 let c:=(Question.appendCap (sLen+n) sCap el).cut (w.tape w.drawn (.appendCap (sLen+n) sCap el))
 have hc:sLen+n<=c:=iQ _ _ _ _
 let arr:=old.toArray++new.toArray++Builtin.zeroCells z.cells (c-(sLen+n))
 let w1:World:={ w with drawn:=w.drawn+1 }
 have hrun:(Builtin.append_ #[t,u] ty #[.slice base sLen sCap,x]).run P w = .ok (.slice (some ⟨w.heap.size,0,none⟩) (sLen+n) c) (w1.alloc (.cells arr el)):=by
  have hn1:¬(sLen+n<=sCap):=by omega
  have h63':¬(9223372036854775807<((sLen:Int)+(n:Int))):=by omega
  have hfit':¬(281474976710656<Builtin.nextslicecap (sLen+n) sCap*i.bytes):=by omega
  have hgo':(Builtin.firstCells i.size sLen (.slice base sLen sCap)).run P w.drew = .ok old.toArray w.drew:=hgo _
  have hgn':(Builtin.firstCells i.size n x).run P w.drew = .ok new.toArray w.drew:=hgn _
  rcases hnot with rfl|⟨d,rfl⟩
  all_goals simp[Builtin.append_,run_underlying ht,run_underlying hu,sizeOf,typeInfo,zeroValue,hi,hz,hlen,hn1,h63',hfit',Question.forced,hgo',hgn',newRow,c,arr,w1]
 refine⟨_,c,hrun,?_,hc⟩
 have hrel1:Dt C R U w1:=hrel.drawn _
 refine hrel1.alloc (FF.of_alloc w1 _) _ _ rfl ?_
 have hcs:=HE hlo hln
 have hle:Le R (IP R U.next ⟨w.heap.size,0,c*i.size⟩):=(E6 R U.next _).le hrel.fresh
 have hlen2:=Bh hcs
 have hmul:(sLen+n)*i.size=sLen*i.size+n*i.size:=fN _ _ _
 have hml:(sLen+n)*i.size<=c*i.size:=EL _ hc
 refine HT (Dl w1 _) (Ee hle _ _ hcs) (fun y hy=>?_) (fun k hk=>?_) ?_ ?_ (fun _ _ h=>by omega)
 ·rcases EA.1 hy with h|h
  ·exact h1o y h
  ·exact h1n y h
 ·have:arr=(old++new).toArray++Builtin.zeroCells z.cells (c-(sLen+n)):=by apply Gh;simp[arr]
  rw[this,Lp (by simpa using hk)]
  simp
 ·simp only[arr,Array.size_append,List.size_toArray,Builtin.zeroCells,Array.size_map,Array.size_range,hzs]
  have:c*i.size=(sLen+n)*i.size+(c-(sLen+n))*i.size:=by rw[<-fN];congr 1;omega
  omega
 ·show (lo++ln).length<=c*i.size
  rw[<-hlen2,AS];omega
end Go.Og
namespace Go.Og
variable {P:Program} {G:Nat->Bool} {R:Cz} {e:B6} {a:Act} {C:Cx} {U:H} {w:World}
set_option maxHeartbeats 800000 in
theorem D5 {t u ty el:TypeId} {i:TypeInfo} (ht:P.underlying t=some (.slice el)) {du:TypeDesc} (hu:P.underlying u=some du)
  (hnot:du = .string\/∃d,du = .slice d) (hi:P.info? el=some i) {base:Option Addr} {sLen sCap n:Nat} {x:Value} {new:Array Value}
  (hlen:(Builtin.lenOf x).run P w = .ok n w) (hle:sLen+n<=sCap) (hgn:(Builtin.firstCells i.size n x).run P w = .ok new w) {w':World}
  (hst:∀b,base=some b->(storeCells (b.add (sLen*i.size)) new.toList).run P w = .ok () w') (hno:base=none->w'=w) :
  (Builtin.append_ #[t,u] ty #[.slice base sLen sCap,x]).run P w = .ok (.slice base (sLen+n) sCap) w':=by
 cases base with
 | none=>
  obtain rfl:=hno rfl
  rcases hnot with rfl|⟨d,rfl⟩
  all_goals simp[Builtin.append_,run_underlying ht,run_underlying hu,sizeOf,typeInfo,zeroValue,hi,hlen,hle,hgn]
 | some b=>
  have hst':=hst b rfl
  rcases hnot with rfl|⟨d,rfl⟩
  all_goals simp[Builtin.append_,run_underlying ht,run_underlying hu,sizeOf,typeInfo,zeroValue,hi,hlen,hle,hgn,hst']
theorem Hc (b:Addr):(storeCells b []).run P w = .ok () w:=rfl
def z8 (P:Program) (C:Cx) (R:Cz) (U:H) (s:Sem Next) (w:World) (v:V) (U':H):Prop:=
 ∃R' w' x,G6 U.next R R'/\U.next<=U'.next/\Dt C R' U' w'/\(v = .dead\/Ao R' v=some x)/\(s.run P w = .ok (.value x) w'\/(s.run P w = .ok .skip w'/\v = .dead))
theorem W8 (hrel:Dt C R U w) {t u ty el:TypeId} {i:TypeInfo} {z:Value} (ht:P.underlying t=some (.slice el)) {du:TypeDesc} (hu:P.underlying u=some du)
  (hnot:du = .string\/∃d,du = .slice d) (hi:P.info? el=some i) (hz:i.zero=some z) (hzs:z.cells.size=i.size) (hpos:0<i.size)
  {s x:V} {sv xv:Value} (hs:s.live=true->Ao R s=some sv) (hx:x.live=true->Ao R x=some xv) {v:V} {U':H}
  (h:C6 C.E i.size i.bytes s x U=some (v,U')) :
  ∃R' w' y,G6 U.next R R'/\U.next<=U'.next/\Dt C R' U' w'/\Ao R' v=some y/\(Builtin.append_ #[t,u] ty #[sv,xv]).run P w = .ok y w':=by
 unfold C6 at h
 cases hsrc:C1 C.E U i.size x with
 | none=>rw[hsrc]at h;cases h
 | some q=>
  obtain⟨n,new⟩:=q
  rw[hsrc]at h
  simp only at h
  have hxl:x.live=true:=by unfold C1 at hsrc;split at hsrc<;>first | rfl | cases hsrc
  have hxc:=hx hxl
  obtain⟨xs,hnc,hnone,hlen,hxlen,hfirst⟩:=Oa (P:=P) hrel hsrc hxc
  have hfn:=hfirst n (AK _)
  rw[Dj (by omega)]at hfn
  have hfd:∀d,(Builtin.firstCells i.size n xv).run P { w with drawn:=d } = .ok xs.toArray { w with drawn:=d }:=fun d=>by
   obtain⟨xs',hnc',_,_,hxlen',hfirst'⟩:=Oa (P:=P) (hrel.drawn d) hsrc hxc
   rw[hnc]at hnc';cases hnc'
   have:=hfirst' n (AK _)
   rwa [Dj (by omega)]at this
  have hnl:=Bh hnc
  split at h
  ·
   have hsv:=hs rfl
   simp only[Ao,AQ.injEq]at hsv
   subst hsv
   split at h
   ·rename_i hn0
    cases h
    subst hn0
    have hxs:xs=[]:=BW (by omega)
    subst hxs
    refine⟨R,w,_,G6.refl _ _,AK _,hrel,rfl,?_⟩
    have:=D5 (P:=P) (ty:=ty) (base:=none) (sLen:=0) (sCap:=0) ht hu hnot hi hlen (AK _) hfn (w':=w) (fun b e=>by cases e) (fun _=>rfl)
    exact this
   ·rename_i hn0
    split at h
    ·rename_i hg
     cases h
     obtain⟨w',c,hrun,hrel',hc⟩:=Sc (P:=P) (ty:=ty) (base:=none) (sLen:=0) (sCap:=0) (old:=[]) (lo:=[]) hrel ht hu hnot hi hz hzs rfl hnc (by simp) hnone (by simp) hxlen hlen (fun d=>by simp[Builtin.firstCells]) hfd (by omega) (by simpa using hg) hpos
     simp only[Ff,BA]at hrel' hrun hc
     refine⟨_,w',_,E6 _ _ _,EM _,hrel',Hn (CN _ _ _) (by simp[BI.cap,Gf _ hpos];exact hc),?_⟩
     rw[hrun]
     simp[BI.cap,Gf _ hpos]
    ·cases h
  ·
   rename_i b off len c
   have hsv:=hs rfl
   obtain⟨j,m,hj,rfl,hex,_⟩:=DG hsv
   obtain rfl:=hex c rfl
   split at h
   ·rename_i hle
    simp only[Ac]at hle
    split at h
    ·rename_i hn0
     cases h
     subst hn0
     have hxs:xs=[]:=BW (by omega)
     subst hxs
     exact⟨R,w,_,G6.refl _ _,AK _,hrel,hsv,D5 (P:=P) (ty:=ty) ht hu hnot hi hlen hle hfn (w':=w) (fun b e=>rfl) (fun e=>by cases e)⟩
    ·split at h
     ·rename_i l hl
      split at h
      ·rename_i hcond
       simp only[AG,Ac]at hcond
       cases h
       have hmul:(len+n)*i.size=len*i.size+n*i.size:=fN _ _ _
       obtain⟨w',hst,hrel'⟩:=OS (P:=P) hrel (off:=off+len*i.size) hl hnc hcond.2 (by omega) hj
       refine⟨R,w',_,G6.refl _ _,AK _,hrel',LZ hj,D5 (P:=P) (ty:=ty) ht hu hnot hi hlen hle hfn (w':=w') (fun b e=>?_) (fun e=>by cases e)⟩
       cases e
       rw[add_eq,D3]
       exact hst
      ·cases h
     ·cases h
   ·rename_i hle
    simp only[Ac]at hle
    split at h
    ·rename_i hg
     split at h
     ·rename_i old hold
      cases h
      obtain⟨j',ys,hj',hyc,hyone,hyl,_,hcell⟩:=hrel.readN hold
      rw[hj]at hj';cases hj'
      obtain⟨w',c',hrun,hrel',hc⟩:=Sc (P:=P) (ty:=ty) (base:=some ⟨j.blk,j.shift+off,none⟩) (sLen:=len) (sCap:=m) hrel ht hu hnot hi hz hzs hyc hnc hyone hnone hyl hxlen hlen (fun d=>by
       have:=run_firstCells_some (P:=P) { w with drawn:=d } i.size len ⟨j.blk,j.shift+off,none⟩ len m ys hyl (fun k v hk=>hcell k v hk)
       exact this) hfd (by omega) hg hpos
      refine⟨_,w',_,E6 _ _ _,EM _,hrel',Hn (CN _ _ _) (by simp[BI.cap,Gf _ hpos];exact hc),?_⟩
      rw[hrun]
      simp[BI.cap,Gf _ hpos]
     ·cases h
    ·cases h
  ·
   rename_i b len z'
   have hsv:=hs rfl
   obtain⟨j,m,hj,rfl,_,hop⟩:=DG hsv
   obtain⟨hm,hlm⟩:=hop z' rfl
   split at h
   ·rename_i hn0
    cases h
    subst hn0
    have hxs:xs=[]:=BW (by omega)
    subst hxs
    exact⟨R,w,_,G6.refl _ _,AK _,hrel,hsv,D5 (P:=P) (ty:=ty) ht hu hnot hi hlen hlm hfn (w':=w) (fun b e=>rfl) (fun e=>by cases e)⟩
   ·rename_i hn0
    split at h
    ·rename_i l hl
     split at h
     ·rename_i hcond
      simp only[AG,AU]at hcond
      obtain⟨⟨⟨hll,hze⟩,hg⟩,hone⟩:=hcond
      subst hze
      cases h
      obtain⟨j',hj',hO,arr,el',lo,hi',hblk,hold,hend,hlen',hf⟩:=hrel.own b _ hl
      rw[hj]at hj';cases hj'
      by_cases hfit:len+n<=m
      ·
       have hmul:(len+n)*i.size=len*i.size+n*i.size:=fN _ _ _
       have hroom:(len+n)*i.size<=j.endc:=by
        have h1:(len+n)*i.size<=m*i.size:=EL _ hfit
        have h2:m*i.size<=j.endc:=by rw[hm];simpa[BI.cap]using Nat.div_mul_le_self j.endc i.size
        omega
       obtain⟨w',hst,hw,arr',h3,h4,h5⟩:=OY (P:=P) (o:=j.shift+len*i.size) hblk hf hnone (by omega)
       have hle:Le R (IP R U.next j):=(E6 R U.next j).le hrel.fresh
       have hrel':Dt C (IP R U.next j) ((U.del b).add (.cells (l++new))) w':=by
        refine hrel.rename hl hj ?_ hw.old hw.size hw.os hw.tape hw.output
        refine⟨arr',el',lo,hi',h3,?_,by omega,by rw[AS];omega,fun o ho=>hf o (by omega)⟩
        intro k v hk
        by_cases hkl:k<l.length
        ·rw[CR hkl]at hk
         obtain⟨y,hy,ho,hky⟩:=hold k v hk
         refine⟨y,Cr hle _ _ hy,ho,?_⟩
         rw[h5,if_neg (by omega)]
         exact hky
        ·rw[BR (by omega)]at hk
         obtain⟨y,hy,hky⟩:=EU hnc hk
         have hlt:k-l.length<xs.length:=by
          rcases Av (k-l.length) xs.length with h|h
          ·exact h
          ·rw[BF h]at hky;cases hky
         refine⟨y,Cr hle _ _ hy,hnone y (DA hky),?_⟩
         rw[h5,if_pos (by omega)]
         rw[show j.shift+k-(j.shift+len*i.size)=k-l.length by omega]
         exact hky
       refine⟨_,w',_,E6 _ _ _,EM _,hrel',Hn (CN _ _ _) (by simpa[hm]using hfit),?_⟩
       have:=D5 (P:=P) (ty:=ty) (base:=some ⟨j.blk,j.shift+0,none⟩) ht hu hnot hi hlen hfit hfn (w':=w') (fun b e=>by cases e;rw[add_eq,JH];exact hst) (fun e=>by cases e)
       rw[this]
       simp[hm]
      ·
       have hrd:Lq C.E U b 0 (len*i.size)=some l:=by
        simp[Lq,rd,hl,hll,Dj (Nat.le_of_eq hll)]
       obtain⟨j',ys,hj',hyc,hyone,hyl,_,hcell⟩:=hrel.readN hrd
       rw[hj]at hj';cases hj'
       obtain⟨w',c',hrun,hrel',hc⟩:=Sc (P:=P) (ty:=ty) (base:=some ⟨j.blk,j.shift+0,none⟩) (sLen:=len) (sCap:=m) hrel ht hu hnot hi hz hzs hyc hnc hyone hnone hyl hxlen hlen (fun d=>by
        have:=run_firstCells_some (P:=P) { w with drawn:=d } i.size len ⟨j.blk,j.shift+0,none⟩ len m ys hyl (fun k v hk=>hcell k v hk)
        exact this) hfd (by omega) hg hpos
       have hrel'':Dt C (IP R U.next ⟨w.heap.size,0,c'*i.size⟩) ((U.del b).add (.cells (l++new))) w':=by
        have:=hrel'.del b
        have hne:¬U.next=b:=by have:=hrel.next_of_own hl;omega
        simpa[H.del,H.add,drop,hne]using this
       refine⟨_,w',_,E6 _ _ _,EM _,hrel'',Hn (CN _ _ _) (by simp[BI.cap,Gf _ hpos];exact hc),?_⟩
       rw[hrun]
       simp[BI.cap,Gf _ hpos]
     ·cases h
    ·cases h
  ·rename_i b off len z' _
   have hsv:=hs rfl
   obtain⟨j,m,hj,rfl,_,hop⟩:=DG hsv
   obtain⟨hm,hlm⟩:=hop z' rfl
   split at h
   ·rename_i hn0
    cases h
    subst hn0
    have hxs:xs=[]:=BW (by omega)
    subst hxs
    exact⟨R,w,_,G6.refl _ _,AK _,hrel,hsv,D5 (P:=P) (ty:=ty) ht hu hnot hi hlen hlm hfn (w':=w) (fun b e=>rfl) (fun e=>by cases e)⟩
   ·cases h
  ·cases h
theorem gJ {E:EB} {esz n:Nat} {x:V} {l:List V} (h:C1 E U esz x=some (n,l)):x.live=true:=by
 unfold C1 at h
 split at h<;>first | rfl | cases h
theorem z8.value {s:Sem Value} {v:V} {U':H} (h:∃R' w' x,G6 U.next R R'/\U.next<=U'.next/\Dt C R' U' w'/\Ao R' v=some x/\s.run P w = .ok x w') :
  z8 P C R U (do pure (Next.value (<-s)):Sem Next) w v U':=by
 obtain⟨R',w',x,h1,h2,h3,h4,h5⟩:=h
 exact⟨R',w',x,h1,h2,h3,.inr h4,.inl (by simp[h5])⟩
theorem C4.snoc {R:Cz} {k v:V} {e:MapEntry} (hk:Ao R k=some e.key) (hv:Ao R v=some e.val):∀{l:List (V × V)} {es:List MapEntry},C4 R l es->C4 R (l++[(k,v)]) (es++[e])
 | [],[],_=>⟨hk,hv,trivial⟩
 | (_,_)::_,_::_,⟨h1,h2,h3⟩=>⟨h1,h2,C4.snoc hk hv h3⟩
 | [],_::_,h=>h.elim
 | _::_,[],h=>h.elim
theorem r8 (hrel:Dt C R U w) (he:B7 R e a.tmps) (o:Oper) {v:V} {U':H} (h:Ep C.E (Ad P C.G o.op) e U=some (v,U')) :
  z8 P C R U (execOp a.eval o) w v U':=by
 have hg:=hrel.globOk
 obtain⟨dst,op,ty,pos,after,guard⟩:=o
 simp only at h
 cases op with
 | store t x y=>
  simp only[Ad]at h
  cases hs:GH P t with
  | none=>rw[hs]at h;simp only[Ep]at h;cases h
  | some n=>
   rw[hs]at h
   cases n with
   | zero=>
    simp only[Ep]at h
    split at h
    ·rename_i b off hx hy
     simp only[AQ.injEq,Prod.mk.injEq]at h
     obtain⟨rfl,rfl⟩:=h
     obtain⟨j,hj,hev⟩:=IG (a:=a) he hg hx
     obtain⟨l,hl,hevy⟩:=Sd (a:=a) he hg hy
     simp only[A1,AQ.injEq]at hl;subst hl
     refine⟨R,w,undef,G6.refl _ _,AK _,hrel,.inl rfl,.inr ⟨?_,rfl⟩⟩
     simp only[execOp]
     unfold Instr.storeAt storeVar
     simp[hev,hevy,Instr.sureAddr,ES hs w,Value.cells,Hc]
    ·cases h
   | succ n=>
   simp only[Ep]at h
   split at h
   ·rename_i b off hx
    split at h
    ·rename_i l hl
     split at h
     ·rename_i hcond
      simp only[AG,AU,Ac]at hcond
      obtain⟨⟨hn,hle⟩,hone⟩:=hcond
      cases h
      obtain⟨j,hj,hev⟩:=IG (a:=a) he hg hx
      have hyl:(CP e (Al C.G y)).live=true:=by
       cases hy:CP e (Al C.G y)with
       | dead=>rw[hy]at hone;simp[V.cells,An,V.one]at hone
       | _=>rfl
      have hcs:=Ho (ev (a:=a) he hg rfl hyl)
      have hlen:=Bh hcs
      obtain⟨w',hst,hrel'⟩:=OS (P:=P) hrel (off:=off) hl hcs hone (by omega) hj
      refine⟨R,w',undef,G6.refl _ _,AK _,hrel',.inl rfl,.inr ⟨?_,rfl⟩⟩
      simp only[Eg]at hlen
      have hsz:¬((a.eval y).cells.size≠n+1):=by omega
      simp only[execOp]
      unfold Instr.storeAt storeVar
      simp only[Sem.run_bind,hev,Instr.sureAddr,Sem.run_pure,Result.andThen_ok,ES hs w]
      rw[if_neg hsz]
      simp[hst]
     ·cases h
    ·cases h
   ·cases h
 | call c=>
  obtain⟨callee,args,argTypes⟩:=c
  cases callee with
  | value f=>cases f<;>(simp only[Ad,Ep]at h;cases h)
  | invoke r m=>simp only[Ad,Ep]at h;cases h
  | builtin b=>
   have hcall:∀{v U'},z8 P C R U (builtin b argTypes ty (args.map fun | .const _=>true | _=>false) (args.map a.eval)) w v U'->z8 P C R U (execOp a.eval ⟨dst,.call ⟨.builtin b,args,argTypes⟩,ty,pos,after,guard⟩) w v U':=by
    rintro v U' ⟨R',w',x,h1,h2,h3,h4,h5⟩
    refine⟨R',w',x,h1,h2,h3,h4,?_⟩
    simp only[execOp,resolve,Sem.run_bind,Sem.run_pure,Result.andThen_ok,invoke]
    exact h5
   apply hcall
   simp only[Ad]at h
   obtain⟨args⟩:=args
   obtain⟨argTypes⟩:=argTypes
   generalize (wJ (fun | Operand.const _=>true | _=>false) (⟨args⟩:Array Operand))=lits
   unfold Kn at h
   split at h
   ·(repeat' split at h)<;>(simp only[Ep]at h;cases h)
   ·(repeat' split at h)<;>(simp only[Ep]at h;cases h)
   ·
    rename_i t u os ox hts has
    simp only at hts has
    subst hts has
    split at h
    ·rename_i el du hu hdu
     split at h
     ·rename_i i hi
      split at h
      ·rename_i z hz
       split at h
       ·simp only[Ep]at h;cases h
       ·rename_i hcond
        simp only[Mb,Bd,Bool.not_eq_false',bne_eq_false_iff_eq,beq_eq_false_iff_ne]at hcond
        obtain⟨⟨hseq,hpos⟩,hzs⟩:=hcond
        have hnot:du = .string\/∃d,du = .slice d:=by
         cases du<;>first | exact .inl rfl | exact .inr ⟨_,rfl⟩ | cases hseq
        simp only[Ep]at h
        simp only[builtin]
        rw[show wJ a.eval ⟨[os,ox]⟩=#[a.eval os,a.eval ox] from by simp]
        apply z8.value
        exact W8 (P:=P) (ty:=ty) hrel hu hdu hnot hi hz hzs (by omega) (fun hl=>ev (a:=a) he hg rfl hl) (fun hl=>ev (a:=a) he hg rfl hl) h
      ·simp only[Ep]at h;cases h
     ·simp only[Ep]at h;cases h
    ·simp only[Ep]at h;cases h
   ·
    rename_i t u od os hts has
    simp only at hts has
    subst hts has
    split at h
    ·rename_i el du hu hdu
     split at h
     ·rename_i i hi
      simp only[Ep]at h
      simp only[builtin]
      rw[show wJ a.eval ⟨[od,os]⟩=#[a.eval od,a.eval os] from by simp]
      apply z8.value
      have hsz:(sizeOf el).run P w = .ok i.size w:=by simp[sizeOf,typeInfo,hi]
      have hsrcl:∀{n l},C1 C.E U i.size (CP e (Al C.G os))=some (n,l)->(CP e (Al C.G os)).live=true:=gJ
      split at h
      ·rename_i n l hd hsrc
       cases h
       have hdc:=ev (a:=a) he hg hd rfl
       simp only[Ao,AQ.injEq]at hdc
       obtain⟨xs,_,_,hlen,_,hfirst⟩:=Oa (P:=P) hrel hsrc (ev (a:=a) he hg rfl (hsrcl hsrc))
       refine⟨R,w,_,G6.refl _ _,AK _,hrel,rfl,?_⟩
       have h0:=hfirst 0 (DZ _)
       rw[<-hdc]
       simp[Builtin.copy_,run_underlying hu,hlen,hsz,h0,goInt]
      ·rename_i b off k z n l hd hsrc
       cases h
       obtain⟨j,_,_,hev⟩:=Ef (ev (a:=a) he hg hd rfl)
       obtain⟨xs,_,_,hlen,_,hfirst⟩:=Oa (P:=P) hrel hsrc (ev (a:=a) he hg rfl (hsrcl hsrc))
       refine⟨R,w,_,G6.refl _ _,AK _,hrel,rfl,?_⟩
       have h0:=hfirst 0 (DZ _)
       rw[hev]
       simp[Builtin.copy_,run_underlying hu,hlen,hsz,h0,goInt,Hc]
      ·rename_i b off len c n src hd hsrc
       obtain⟨j,m,hj,hev,_⟩:=DG (ev (a:=a) he hg hd rfl)
       obtain⟨xs,hxc,hxone,hlen,hxlen,hfirst⟩:=Oa (P:=P) hrel hsrc (ev (a:=a) he hg rfl (hsrcl hsrc))
       have hf:=hfirst (Ex n len) (Nat.min_le_left _ _)
       split at h
       ·rename_i h0
        cases h
        rw[h0]at hf
        refine⟨R,w,_,G6.refl _ _,AK _,hrel,rfl,?_⟩
        rw[hev]
        simp[Builtin.copy_,run_underlying hu,hlen,hsz,h0,hf,goInt,Hc]
       ·split at h
        ·rename_i l hl
         split at h
         ·rename_i hcond
          simp only[AG,Ac]at hcond
          cases h
          have htk:=PE hxc (Ex n len*i.size)
          have htl:=Bh hxc
          have hmm:Ex n len*i.size<=n*i.size:=EL _ (Nat.min_le_left _ _)
          obtain⟨w',hst,hrel'⟩:=OS (P:=P) hrel (off:=off) hl htk hcond.2 (by rw[BY];omega) hj
          refine⟨R,w',_,G6.refl _ _,AK _,hrel',rfl,?_⟩
          rw[hev]
          simp[Builtin.copy_,run_underlying hu,hlen,hsz,hf,goInt,hst]
         ·cases h
        ·cases h
      ·cases h
     ·simp only[Ep]at h;cases h
    ·simp only[Ep]at h;cases h
   ·simp only[Ep]at h;cases h
   ·simp only[Ep]at h;cases h
   ·simp only[Ep]at h;cases h
 | mapUpdate t x y z=>
  simp only[Ad]at h
  split at h
  ·rename_i kt vt hut
   simp only[Ep]at h
   unfold SZ at h
   split at h
   ·rename_i b hb
    split at h
    ·rename_i l hl
     split at h
     ·rename_i hc
      simp only[AG]at hc
      split at h
      ·rename_i hf
       simp only[AQ.injEq,Prod.mk.injEq]at h
       obtain⟨rfl,rfl⟩:=h
       obtain⟨hlk,fs,hfs⟩:=Ox hc.1
       have hkv:=ev (a:=a) he hg rfl hlk
       have hvv:=ev (a:=a) he hg rfl hc.2
       obtain⟨i,es,clock,hi,hw,hmh⟩:=hrel.mapAt hl
       obtain⟨j,hj,hmv⟩:=H5 (ev (a:=a) he hg hb rfl)
       rw[hi]at hj;cases hj
       have hget:(getObj i.blk).run P w = .ok (.map es clock) w:=by simp[getObj,Sem.run,hw]
       have hck:=NU (P:=P) hc.1 hkv false w
       have hfa:=MH hfs hkv w 0 hf hmh
       simp only at hfa
       have hset:∀o,(setObj i.blk o).run P w = .ok () { w with heap:=w.heap.setIfInBounds i.blk o }:=fun o=>by simp[setObj,Sem.run,hw]
       have hlt:i.blk<w.heap.size:=(ABg.1 hw).1
       refine⟨R,{ w with heap:=w.heap.setIfInBounds i.blk (.map (es.push { key:=a.eval y,val:=a.eval z,born:=clock }) (clock+1)) },undef,G6.refl _ _,AK _,hrel.write hl hi ?_ ?_ ?_ rfl rfl rfl,.inl rfl,.inr ⟨?_,rfl⟩⟩
       ·exact⟨es.push { key:=a.eval y,val:=a.eval z,born:=clock },clock+1,by simp[hlt],by simpa using C4.snoc (e:={ key:=a.eval y,val:=a.eval z,born:=clock }) hkv hvv hmh⟩
       ·intro k hk
        simp[Ne.symm hk]
       ·simp
       ·simp only[execOp]
        unfold Instr.mapUpdate
        simp[hmv,run_underlying hut,hget,hck,LU hfs,hfa,hset]
      ·cases h
     ·cases h
    ·cases h
   ·cases h
  ·simp only[Ep]at h;cases h
 | makeMap t r=>cases r<;>(simp only[Ad,Ep]at h;cases h)
 | lookup t x y ok=>cases ok<;>simp only[Ad]at h<;>first | (simp only[Ep]at h;cases h;done) | ((repeat' split at h)<;>(simp only[Ep]at h;cases h))
 | move x=>simp only[Ad,Ep]at h;cases h
 | assign x=>simp only[Ad,Ep]at h;cases h
 | makeFunc f x y=>cases f<;>(simp only[Ad,Ep]at h;cases h)
 | _=>simp only[Ad]at h;first | (simp only[Ep]at h;cases h;done) | ((repeat' split at h)<;>(simp only[Ep]at h;cases h))
end Go.Og
namespace Go.Og
inductive AX where
 | normal | exit (id:Nat) | ret
 deriving DecidableEq,Inhabited
def qk (f:B6->H->Option (AX × B6 × H)):Nat->B6->H->Option (AX × B6 × H)
 | 0,_,_=>none
 | n+1,e,U=>match f e U with
  | none=>none
  | some (.normal,e',U')=>qk f n e' U'
  | some (x,e',U')=>some (x,e',U')
abbrev AH:=List BO->List DP->B6->H->Option (B6 × H)
def Q1 (E:EB) (D:Ai) (W:AH) (N:Nat):AC->B6->H->Option (AX × B6 × H)
 | .skip,e,U=>some (.normal,e,U)
 | .region ops,e,U=>match LY E D ops e U with
  | some (e',U')=>some (.normal,e',U')
  | none=>none
 | .draw ops ms,e,U=>match W ops ms e U with
  | some (e',U')=>some (.normal,e',U')
  | none=>none
 | .seq a b,e,U=>match Q1 E D W N a e U with
  | some (.normal,e',U')=>Q1 E D W N b e' U'
  | some (x,e',U')=>some (x,e',U')
  | none=>none
 | .cond c a b,e,U=>match CP e c with
  | .bool true=>Q1 E D W N a e U
  | .bool false=>Q1 E D W N b e U
  | _=>none
 | .block id c,e,U=>match Q1 E D W N c e U with
  | some (.exit j,e',U')=>if Ak j id then some (.normal,e',U')else some (.exit j,e',U')
  | some (x,e',U')=>some (x,e',U')
  | none=>none
 | .loop c,e,U=>qk (Q1 E D W N c) N e U
 | .exit id,e,U=>some (.exit id,e,U)
 | .ret,e,U=>some (.ret,e,U)
 | .keep ts c,e,U=>Q1 E D W N c (restr ts e) U
 | .bad,_,_=>none
def LL (E:EB) (e:B6) (U:H):List AR->Option (List V)
 | []=>some []
 | .tmp t::l=>match (Ga e t).live,LL E e U l with
  | true,some r=>some (Ga e t::r)
  | _,_=>none
 | .cell t n::l=>match Ga e t,LL E e U l with
  | .ptr b off,some r=>match n with
   | none=>match rd E U b with
    | some cs=>match cs[off]? with
     | some v=>some (v::r)
     | none=>none
    | none=>none
   | some n=>match Lq E U b off n with
    | some cs=>some (.agg cs::r)
    | none=>none
  | _,_=>none
def H0:List Nat->B6->H->H
 | [],_,U=>U
 | t::l,e,U=>H0 l e (match Ga e t with
  | .ptr b 0=>U.del b
  | _=>U)
def Dh:List V->V
 | [v]=>v
 | l => .tup l
def N3:Nat->List V->B6
 | _,[]=>[]
 | k,v::l=>(k,v)::N3 (k+1) l
def gT (E:EB) (D:Ai) (W:AH) (N:Nat) (f:fL) (args:List V) (U:H):Option (V × H):=
 match Q1 E D W N f.body (N3 0 args) U with
 | some (.exit _,_,_)=>none
 | some (_,e,U')=>match LL E e U' f.results with
  | some l=>some (Dh l,H0 f.frees e U')
  | none=>none
 | none=>none
variable {P:Program} {G:Nat->Bool} {E:EB}
def Ce (P:Program) (E:EB) (G:Nat->Bool) (f:FuncId) (D:List V->H->Option (V × H)):Prop:=
 ∀(C:Cx),C.E=E->C.G=G->∀(R:Cz) (U:H) (w:World) (args:List V) (xs:List Value) (v:V) (U':H),D args U=some (v,U')->Dt C R U w->A1 R args=some xs ->
  JB P f=true/\Calls P f xs.toArray w fun en w'=>∃R' x,G6 U.next R R'/\U.next<=U'.next/\Dt C R' U' w'/\Ao R' v=some x/\en = .returned x
theorem B7.put {R:Cz} {e:B6} {a:Act} (h:B7 R e a.tmps) {dst:Option Nat} (hd:GJ a.tmps.size dst=true) {v:V} {x:Value} (hv:v = .dead\/Ao R v=some x):B7 R (Cu e dst v) (a.put dst x).tmps:=by
 cases dst with
 | none=>exact h
 | some d=>
  simp only[GJ,Bu]at hd
  refine⟨fun k u hk=>?_⟩
  simp only[Cu,look]at hk
  simp only[Act.put,A2]
  by_cases hdk:d=k
  ·subst hdk
   rw[if_pos (by simp)]at hk
   cases hk
   rw[if_pos rfl,if_pos hd]
   exact hv.imp id fun h=>⟨x,rfl,h⟩
  ·rw[if_neg (by simpa using hdk)]at hk
   rw[if_neg hdk]
   exact h.at_ k u hk
theorem GX (ls:List Nat) (e:B6) (t:Nat) (v:V) (h:look (restr ls e) t=some v):look e t=some v/\Bn ls t=true:=by
 induction ls with
 | nil=>simp[restr,look]at h
 | cons a ls ih=>
  simp only[restr]at h
  simp only[Bn,Bk,AU]
  cases ha:look e a with
  | none=>rw[ha]at h;exact(ih h).imp id .inr
  | some u=>
   rw[ha]at h
   simp only[look]at h
   by_cases hat:a=t
   ·subst hat
    rw[if_pos (by simp)]at h
    cases h
    exact⟨ha,.inl rfl⟩
   ·rw[if_neg (by simpa using hat)]at h
    exact(ih h).imp id .inr
theorem B7.restr {R:Cz} {tmps:Array Value} (ts:List Nat) {e:B6} (h:B7 R e tmps):B7 R (Og.restr ts e) tmps:=
 ⟨fun k v hk=>h.at_ k v (GX ts e k v hk).1⟩
theorem IY (a:Act) (dst:Option Nat) (x:Value):(a.put dst x).tmps.size=a.tmps.size:=by cases dst<;>simp[Act.put]
theorem E0 (a:Act) (dst:Option Nat) (x:Value):(a.put dst x).defers=a.defers:=by cases dst<;>rfl
theorem OG {D:Ai} (hD:∀f,Ce P E G f (D f)) {C:Cx} (hE:C.E=E) (hG:C.G=G) {R:Cz} {U:H} {w:World} {e:B6} {a:Act} (hrel:Dt C R U w) (he:B7 R e a.tmps)
  (o:Oper) {v:V} {U':H} (h:Dx E D (Ad P G o.op) e U=some (v,U')) (K:Act->World->Prop) (Q:Exit->Act->World->Prop)
  (hK:∀R' w' x,G6 U.next R R'->U.next<=U'.next->Dt C R' U' w'->(v = .dead\/Ao R' v=some x)->K (a.put o.dst x) w'):o.wp P a w K Q:=by
 subst hE hG
 have hg:=hrel.globOk
 have Ol:∀(h:oh C.E (Ad P C.G o.op) e U=some (v,U')),o.wp P a w K Q:=by
  intro h
  unfold oh at h
  split at h
  ·split at h
   ·rename_i v' hp
    cases h
    obtain⟨x,hx,hrun⟩:=MP (a:=a) (P:=P) he hg o hp w
    unfold Oper.wp
    rw[hrun]
    exact hK R w x (G6.refl _ _) (AK _) hrel (.inr hx)
   ·cases h
  ·split at h
   ·rename_i v' hp
    cases h
    obtain⟨x,hx,hrun⟩:=MQ (P:=P) hrel he o hp
    unfold Oper.wp
    rw[hrun]
    exact hK R w x (G6.refl _ _) (AK _) hrel (.inr hx)
   ·cases h
  ·split at h
   ·rename_i v' b hp
    cases h
    obtain⟨x,w',i,hrun,hn,hi,hx,hok⟩:=OI (a:=a) (P:=P) he hg o hp (hrel.fresh _ (AK _)) w
    unfold Oper.wp
    rw[hrun]
    exact hK _ w' x (E6 _ _ _) (EM _) (hrel.alloc hn b i hi hok) (.inr hx)
   ·cases h
  ·obtain⟨R',w',x,h1,h2,h3,h4,h5⟩:=r8 (P:=P) hrel he o h
   unfold Oper.wp
   rcases h5 with h5|⟨h5,hv⟩
   ·rw[h5];exact hK R' w' x h1 h2 h3 h4
   ·rw[h5];exact hK R' w' undef h1 h2 h3 (.inl hv)
 have hcallrun:∀(g:FuncId) (args:Array Value),JB P g=true->(callFunc g args).run P w = .ok (.enter g args) w:=by
  intro g args hok
  unfold JB at hok
  unfold callFunc
  simp only[Sem.run_bind,run_program,Result.andThen_ok]
  cases hf:P.funcs[g]? with
  | none=>rw[hf]at hok;cases hok
  | some fn=>
   rw[hf]at hok
   simp only[AG,bne_iff_ne]at hok
   have h1:(fn.name == "runtime.NumGoroutine")=false:=by simpa using hok.1
   have h2:fn.body.isNone=false:=by cases hb:fn.body<;>simp_all
   simp only[h1,h2,DE,if_false,Sem.run_pure]
 have enter:∀(g:FuncId) (vs:List V) (xs:List Value),A1 R vs=some xs->D g vs U=some (v,U')->(execOp a.eval o).run P w=(callFunc g xs.toArray).run P w->o.wp P a w K Q:=by
  intro g vs xs hvs hd hrun
  obtain⟨hok,hc⟩:=hD g C rfl rfl R U w vs xs v U' hd hrel hvs
  unfold Oper.wp
  rw[hrun,hcallrun g _ hok,Oper.upon_enter]
  refine hc.mono ?_
  rintro en w' ⟨R',x,h1,h2,h3,h4,rfl⟩
  exact hK R' w' x h1 h2 h3 (.inr h4)
 cases hop:Ad P C.G o.op with
 | call f args=>
  rw[hop]at h
  simp only[Dx]at h
  obtain⟨dst,op,ty,pos,after,guard⟩:=o
  have hsh:∃c,op = .call c/\c.callee = .value (.func f)/\args=c.args.toList.map (Al C.G):=by
   simp only at hop
   cases op<;>simp only[Ad]at hop<;>(try (first | (cases hop;done) | ((repeat' split at hop)<;>(cases hop;done))))
   ·rename_i fn _ _;cases fn<;>cases hop
   ·rename_i r;cases r<;>cases hop
   ·rename_i ok;cases ok
    ·cases hop
    ·simp only at hop;split at hop<;>cases hop
   ·rename_i c
    refine⟨c,rfl,?_⟩
    obtain⟨callee,cargs,argTypes⟩:=c
    simp only at hop
    split at hop
    ·unfold Kn at hop;(repeat' split at hop)<;>cases hop
    ·cases hop;exact⟨rfl,rfl⟩
    ·cases hop
    ·cases hop
  obtain⟨c,rfl,hcal,rfl⟩:=hsh
  split at h
  ·rename_i hl
   have hev:=evs (a:=a) he hg c.args.toList hl
   refine enter f _ _ hev h ?_
   obtain⟨callee,cargs,argTypes⟩:=c
   simp only at hcal
   subst hcal
   simp only[execOp,resolve,Act.eval,Deferred.ofValue,Sem.run_bind,Sem.run_pure,Result.andThen_ok,invoke]
   congr 2
   apply Gh
   simp
  ·cases h
 | callv fo args=>
  rw[hop]at h
  simp only[Dx]at h
  obtain⟨dst,op,ty,pos,after,guard⟩:=o
  have hsh:∃c t,op = .call c/\c.callee = .value (.tmp t)/\fo = .tmp t/\args=c.args.toList.map (Al C.G):=by
   simp only at hop
   cases op<;>simp only[Ad]at hop<;>(try (first | (cases hop;done) | ((repeat' split at hop)<;>(cases hop;done))))
   ·rename_i fn _ _;cases fn<;>cases hop
   ·rename_i r;cases r<;>cases hop
   ·rename_i ok;cases ok
    ·cases hop
    ·simp only at hop;split at hop<;>cases hop
   ·rename_i c
    obtain⟨callee,cargs,argTypes⟩:=c
    simp only at hop
    split at hop
    ·unfold Kn at hop;(repeat' split at hop)<;>cases hop
    ·cases hop
    ·rename_i t;cases hop;exact⟨_,t,rfl,rfl,rfl,rfl⟩
    ·cases hop
  obtain⟨c,t,rfl,hcal,rfl,rfl⟩:=hsh
  split at h
  ·rename_i g first cap hf
   split at h
   ·rename_i hl
    have hev:=evs (a:=a) he hg c.args.toList hl
    have hfc:=ev (a:=a) (o := .tmp t) he hg (by simpa[Al]using hf) rfl
    obtain⟨y,z,hy,hz,hfe⟩:=J4 hfc
    refine enter g _ _ (HE (HE hy hev) hz) h ?_
    obtain⟨callee,cargs,argTypes⟩:=c
    simp only at hcal
    subst hcal
    simp only[execOp,resolve,hfe,Deferred.ofValue,Sem.run_bind,Sem.run_pure,Result.andThen_ok,invoke]
    congr 2
    apply Gh
    simp
   ·cases h
  ·cases h
 | _=>rw[hop]at h;rw[hop]at Ol;exact Ol (by simpa only [Dx]using h)
end Go.Og
namespace Go.Og
variable {P:Program} {G:Nat->Bool} {E:EB} {D:Ai} {C:Cx}
def QH (C:Cx) (nt:Nat) (U U':H) (e':B6) (R:Cz) (K:Act->World->Prop):Prop:=
 ∀R' a' w',G6 U.next R R'->U.next<=U'.next->Dt C R' U' w'->B7 R' e' a'.tmps->nt<=a'.tmps.size->a'.defers=[]->K a' w'
theorem QH.step {nt:Nat} {U U1 U':H} {e':B6} {R R1:Cz} {K:Act->World->Prop} (h:QH C nt U U' e' R K) (he:G6 U.next R R1) (hn:U.next<=U1.next):QH C nt U1 U' e' R1 K:=
 fun R' a' w' h1 h2 h3 h4 h5 h6=>h R' a' w' (he.trans h1 hn) (Bc hn h2) h3 h4 h5 h6
theorem Hj {n m:Nat} {d:Option Nat} (h:GJ n d=true) (hnm:n<=m):GJ m d=true:=by
 cases d with
 | none=>rfl
 | some d=>simp only[GJ,Bu]at h ⊢;omega
theorem DW {R:Cz} {e:B6} {a:Act} (he:B7 R e a.tmps) {ops:Array Oper} {o:Oper} {g:Option (Nat × Bool)} (hg:PG ops o.guard=some g) {b:Bool} (h:Bq e g=some b) :
  Region.wanted o (yielded ops a.tmps)=b:=by
 unfold PG at hg
 cases hgd:o.guard with
 | none=>
  rw[hgd]at hg
  simp only[AQ.injEq]at hg
  subst hg
  simp only[Bq,AQ.injEq]at h
  subst h
  simp[Region.wanted,hgd]
 | some jb=>
  obtain⟨j,want⟩:=jb
  rw[hgd]at hg
  simp only at hg
  split at hg
  ·rename_i t ht
   simp only[AQ.injEq]at hg
   subst hg
   simp only[Bq]at h
   split at h
   ·rename_i c hc
    simp only[AQ.injEq]at h
    subst h
    obtain⟨x,hx,hcx⟩:=he.get hc rfl
    cases hcx
    simp[Region.wanted,hgd,yielded,ht,hx]
   ·rename_i hc
    simp only[AQ.injEq]at h
    subst h
    obtain⟨x,hx,hcx⟩:=he.get hc rfl
    cases hcx
    simp[Region.wanted,hgd,yielded,ht,hx]
   ·cases h
  ·cases hg
theorem M0 (hD:∀f,Ce P E G f (D f)) (hE:C.E=E) (hG:C.G=G) (nt:Nat) (ops:Array Oper) (Q:Exit->Act->World->Prop) :
  ∀(l:List Oper) (e:B6) (U:H) (e':B6) (U':H) (R:Cz) (a:Act) (w:World),LY E D (l.map (BK P G nt ops)) e U=some (e',U') ->
   Dt C R U w->B7 R e a.tmps->nt<=a.tmps.size->a.defers=[]->QH C nt U U' e' R (Q .normal)->wpList P ops Q l a w
 | [],e,U,e',U',R,a,w,h,hrel,he,hsz,hd,hQ=>by
  simp only[HJ,LY,AQ.injEq,Prod.mk.injEq]at h
  obtain⟨rfl,rfl⟩:=h
  exact hQ R a w (G6.refl _ _) (AK _) hrel he hsz hd
 | o::l,e,U,e',U',R,a,w,h,hrel,he,hsz,hd,hQ=>by
  simp only[B3,LY]at h
  by_cases hgd:∃g,PG ops o.guard=some g/\GJ nt o.dst=true
  ·obtain⟨g,hg,hdst⟩:=hgd
   have hco:BK P G nt ops o=⟨o.dst,Ad P G o.op,g⟩:=by simp only[BK,hg,hdst]
   rw[hco]at h
   simp only at h
   have hdst':=Hj hdst hsz
   cases hw:Bq e g with
   | none=>rw[hw]at h;cases h
   | some b=>
    rw[hw]at h
    have hwant:=DW he hg hw
    cases b with
    | false=>
     simp only at h
     unfold wpList
     rw[if_neg (by rw[hwant];simp)]
     exact M0 hD hE hG nt ops Q l _ U e' U' R _ w h hrel (he.put hdst' (.inr rfl)) (by rw[IY];exact hsz) (by rw[E0];exact hd) hQ
    | true=>
     simp only at h
     cases h1:Dx E D (Ad P G o.op) e U with
     | none=>rw[h1]at h;cases h
     | some q=>
      obtain⟨v,U1⟩:=q
      rw[h1]at h
      simp only at h
      unfold wpList
      rw[if_pos hwant]
      left
      refine OG hD hE hG hrel he o h1 _ _ (fun R1 w1 x he1 hn1 hrel1 hv=>?_)
      exact M0 hD hE hG nt ops Q l _ U1 e' U' R1 _ w1 h hrel1 ((he.mono (he1.le hrel.fresh)).put hdst' hv) (by rw[IY];exact hsz) (by rw[E0];exact hd) (hQ.step he1 hn1)
  ·have hco:BK P G nt ops o=⟨o.dst,.bad,none⟩:=by
    unfold BK
    split
    ·rename_i g h1 h2;exact(hgd ⟨g,h1,h2⟩).elim
    ·rfl
   rw[hco]at h
   simp[Bq,Dx,oh,Eb.cls,BV]at h
def Pw (P:Program) (E:EB) (G:Nat->Bool) (W:AH):Prop:=
 ∀(C:Cx),C.E=E->C.G=G->∀(nt:Nat) (id:Nat) (ops:Array Oper) (e:B6) (U:H) (e':B6) (U':H),Ok ops (ops.toList.map (BK P G nt ops)) (GS ops)=true->W (ops.toList.map (BK P G nt ops)) (GS ops) e U=some (e',U') ->
  ∀(R:Cz) (a:Act) (w:World) (Q:Exit->Act->World->Prop),Dt C R U w->B7 R e a.tmps->nt<=a.tmps.size->a.defers=[]->QH C nt U U' e' R (Q .normal)->(Code.region id ops true).wp P Q a w
def AX.exit':AX->Exit
 | .normal => .normal
 | .exit id => .exit id
 | .ret => .ret
theorem yJ (hD:∀f,Ce P E G f (D f)) {W:AH} (hW:Pw P E G W) (hE:C.E=E) (hG:C.G=G) (N nt:Nat) :
  ∀(ac:AC) (c:Code),ac.strip=CV P G nt c->∀(e:B6) (U:H) (x:AX) (e':B6) (U':H),Q1 E D W N ac e U=some (x,e',U') ->
   ∀(R:Cz) (a:Act) (w:World) (Q:Exit->Act->World->Prop),Dt C R U w->B7 R e a.tmps->nt<=a.tmps.size->a.defers=[]->QH C nt U U' e' R (Q x.exit')->c.wp P Q a w:=by
 intro ac
 induction ac with
 | bad=>intro c _ e U x e' U' h;cases h
 | keep ts ac ih=>
  intro c hs e U x e' U' h R a w Q hrel he hsz hd hQ
  exact ih c hs _ U x e' U' h R a w Q hrel (he.restr ts) hsz hd hQ
 | skip=>
  intro c hs e U x e' U' h R a w Q hrel he hsz hd hQ
  cases h
  cases c<;>simp only[AC.strip,CV]at hs<;>(try (cases hs;done))
  ·exact wp_skip (hQ R a w (G6.refl _ _) (AK _) hrel he hsz hd)
  ·rename_i i o d;cases d<;>(first | (cases hs;done) | (simp only[CV]at hs;split at hs<;>cases hs))
 | exit id=>
  intro c hs e U x e' U' h R a w Q hrel he hsz hd hQ
  cases h
  cases c<;>simp only[AC.strip,CV]at hs<;>(try (cases hs;done))
  ·rename_i i o d;cases d<;>(first | (cases hs;done) | (simp only[CV]at hs;split at hs<;>cases hs))
  ·cases hs;exact wp_exit (hQ R a w (G6.refl _ _) (AK _) hrel he hsz hd)
 | ret=>
  intro c hs e U x e' U' h R a w Q hrel he hsz hd hQ
  cases h
  cases c<;>simp only[AC.strip,CV]at hs<;>(try (cases hs;done))
  ·rename_i i o d;cases d<;>(first | (cases hs;done) | (simp only[CV]at hs;split at hs<;>cases hs))
  ·exact wp_ret (hQ R a w (G6.refl _ _) (AK _) hrel he hsz hd)
 | region ops=>
  intro c hs e U x e' U' h R a w Q hrel he hsz hd hQ
  cases c<;>simp only[AC.strip,CV]at hs<;>(try (cases hs;done))
  rename_i i o d
  cases d
  case true=>simp only[CV]at hs;split at hs<;>cases hs
  simp only[CV]at hs
  cases hs
  simp only[Q1]at h
  cases h1:LY E D (o.toList.map (BK P G nt o)) e U with
  | none=>rw[h1]at h;cases h
  | some q=>
   obtain⟨e1,U1⟩:=q
   rw[h1]at h
   cases h
   exact wp_region_list (M0 hD hE hG nt o Q o.toList e U _ _ R a w h1 hrel he hsz hd hQ)
 | draw ops ms=>
  intro c hs e U x e' U' h R a w Q hrel he hsz hd hQ
  cases c<;>simp only[AC.strip,CV]at hs<;>(try (cases hs;done))
  rename_i i o d
  cases d<;>simp only[CV]at hs<;>(try (cases hs;done))
  split at hs
  case isFalse=>cases hs
  rename_i hplan
  cases hs
  simp only[Q1]at h
  cases h1:W (o.toList.map (BK P G nt o)) (GS o) e U with
  | none=>rw[h1]at h;cases h
  | some q=>
   obtain⟨e1,U1⟩:=q
   rw[h1]at h
   cases h
   exact hW C hE hG nt i o e U _ _ hplan h1 R a w Q hrel he hsz hd hQ
 | seq p q ihp ihq=>
  intro c hs e U x e' U' h R a w Q hrel he hsz hd hQ
  cases c<;>simp only[AC.strip,CV]at hs<;>(try (cases hs;done))
  ·rename_i i o d;cases d<;>(first | (cases hs;done) | (simp only[CV]at hs;split at hs<;>cases hs))
  rename_i c1 c2
  simp only[AC.seq.injEq]at hs
  simp only[Q1]at h
  cases h1:Q1 E D W N p e U with
  | none=>rw[h1]at h;cases h
  | some r=>
   obtain⟨x1,e1,U1⟩:=r
   rw[h1]at h
   refine wp_seq (ihp c1 hs.1 e U x1 e1 U1 h1 R a w _ hrel he hsz hd ?_)
   cases x1 with
   | normal=>
    simp only at h
    intro R1 a1 w1 hx1 hn1 hrel1 he1 hs1 hd1
    exact ihq c2 hs.2 e1 U1 x e' U' h R1 a1 w1 Q hrel1 he1 hs1 hd1 (hQ.step hx1 hn1)
   | exit id=>cases h;exact hQ
   | ret=>cases h;exact hQ
 | cond o p q ihp ihq=>
  intro c hs e U x e' U' h R a w Q hrel he hsz hd hQ
  cases c<;>simp only[AC.strip,CV]at hs<;>(try (cases hs;done))
  ·rename_i i o d;cases d<;>(first | (cases hs;done) | (simp only[CV]at hs;split at hs<;>cases hs))
  rename_i co c1 c2
  simp only[AC.cond.injEq]at hs
  obtain⟨rfl,h1,h2⟩:=hs
  simp only[Q1]at h
  split at h
  ·rename_i ho
   exact wp_cond_true (KV he (hG ▸ hrel.globOk) ho) (ihp c1 h1 e U x e' U' h R a w Q hrel he hsz hd hQ)
  ·rename_i ho
   exact wp_cond_false (KV he (hG ▸ hrel.globOk) ho) (ihq c2 h2 e U x e' U' h R a w Q hrel he hsz hd hQ)
  ·cases h
 | block id p ih=>
  intro c hs e U x e' U' h R a w Q hrel he hsz hd hQ
  cases c<;>simp only[AC.strip,CV]at hs<;>(try (cases hs;done))
  ·rename_i i o d;cases d<;>(first | (cases hs;done) | (simp only[CV]at hs;split at hs<;>cases hs))
  rename_i i c1
  simp only[AC.block.injEq]at hs
  obtain⟨rfl,hs⟩:=hs
  simp only[Q1]at h
  cases h1:Q1 E D W N p e U with
  | none=>rw[h1]at h;cases h
  | some r=>
   obtain⟨x1,e1,U1⟩:=r
   rw[h1]at h
   refine wp_block (ih c1 hs e U x1 e1 U1 h1 R a w _ hrel he hsz hd ?_)
   cases x1 with
   | normal=>cases h;exact hQ
   | ret=>cases h;exact hQ
   | exit j=>
    simp only at h
    split at h
    ·rename_i hj
     simp only[AU]at hj
     cases h
     intro R1 a1 w1 h1 h2 h3 h4 h5 h6
     show Exit.inBlock id Q (.exit j) a1 w1
     simp only[Exit.inBlock]
     rw[if_pos hj]
     exact hQ R1 a1 w1 h1 h2 h3 h4 h5 h6
    ·rename_i hj
     simp only[AU]at hj
     cases h
     intro R1 a1 w1 h1 h2 h3 h4 h5 h6
     show Exit.inBlock id Q (.exit j) a1 w1
     simp only[Exit.inBlock]
     rw[if_neg hj]
     exact hQ R1 a1 w1 h1 h2 h3 h4 h5 h6
 | loop p ih=>
  intro c hs e U x e' U' h R a w Q hrel he hsz hd hQ
  cases c<;>simp only[AC.strip,CV]at hs<;>(try (cases hs;done))
  ·rename_i i o d;cases d<;>(first | (cases hs;done) | (simp only[CV]at hs;split at hs<;>cases hs))
  rename_i c1
  simp only[AC.loop.injEq]at hs
  simp only[Q1]at h
  have key:∀(n:Nat) (e:B6) (U:H) (R:Cz) (a:Act) (w:World),qk (Q1 E D W N p) n e U=some (x,e',U')->Dt C R U w->B7 R e a.tmps->nt<=a.tmps.size->a.defers=[] ->
    QH C nt U U' e' R (Q x.exit')->Code.rounds P c1 Q n a w:=by
   intro n
   induction n with
   | zero=>intro e U R a w h;cases h
   | succ n ihn=>
    intro e U R a w h hrel he hsz hd hQ
    simp only[qk]at h
    cases h1:Q1 E D W N p e U with
    | none=>rw[h1]at h;cases h
    | some r=>
     obtain⟨x1,e1,U1⟩:=r
     rw[h1]at h
     rw[rounds_succ]
     refine ih c1 hs e U x1 e1 U1 h1 R a w _ hrel he hsz hd ?_
     cases x1 with
     | normal=>
      simp only at h
      intro R1 a1 w1 hx1 hn1 hrel1 he1 hs1 hd1
      exact ihn e1 U1 R1 a1 w1 h hrel1 he1 hs1 hd1 (hQ.step hx1 hn1)
     | exit id=>cases h;exact hQ
     | ret=>cases h;exact hQ
  exact wp_loop_rounds N (key N e U R a w h hrel he hsz hd hQ)
theorem N9 {R:Cz} {U:H} {w:World} {e:B6} {tmps:Array Value} (hrel:Dt C R U w) (he:B7 R e tmps):∀(rs:List ResultVar) (as:List AR) (l:List V),Gc P rs=some as->LL C.E e U as=some l ->
  ∃xs,A1 R l=some xs/\(rs.mapM (m:=Sem) fun
   | .tmp t=>pure (tmps.getD t undef)
   | .cell a t=>do loadVar t (<-asAddr (tmps.getD a undef))).run P w = .ok xs w
 | [],as,l,hc,h=>by
  simp only[Gc,AQ.injEq]at hc;subst hc
  simp only[LL,AQ.injEq]at h;subst h
  exact⟨[],rfl,rfl⟩
 | r::rs,as,l,hc,h=>by
  have hget:∀(t:Nat) (v:V),Ga e t=v->v.live=true->Ao R v=some (tmps.getD t undef):=by
   intro t v hv hl
   obtain⟨x,hx,hc⟩:=he.get hv hl
   rw[hc,EO,hx];rfl
  simp only[Gc]at hc
  cases hr:PF P r with
  | none=>rw[hr]at hc;cases hc
  | some ar=>
   cases hrs:Gc P rs with
   | none=>rw[hr,hrs]at hc;cases hc
   | some as'=>
    rw[hr,hrs]at hc
    simp only[AQ.injEq]at hc
    subst hc
    cases r with
    | tmp t=>
     simp only[PF,AQ.injEq]at hr
     subst hr
     simp only[LL]at h
     split at h
     ·rename_i l' hl hrest
      cases h
      obtain⟨xs,h1,h2⟩:=N9 hrel he rs as' l' hrs hrest
      refine⟨_,Be.2 ⟨_,_,hget t _ rfl hl,h1,rfl⟩,?_⟩
      rw[Tw]
      simp only[Sem.run_bind,Sem.run_pure,Result.andThen_ok,h2]
     ·cases h
    | cell t ty=>
     simp only[PF]at hr
     cases hs:Gj P ty with
     | none=>rw[hs]at hr;cases hr
     | some n=>
      rw[hs]at hr
      simp only[AQ.injEq]at hr
      subst hr
      simp only[LL]at h
      split at h
      ·rename_i b off l' hb hrest
       obtain⟨j,hj,hev⟩:=I9 (hget t _ hb rfl)
       obtain⟨xs,h1,h2⟩:=N9 hrel he rs as' l' hrs hrest
       obtain⟨hagg,hsz⟩:=KK (P:=P) hs w
       split at h
       ·split at h
        ·rename_i cs hrd
         split at h
         ·rename_i v hk
          cases h
          obtain⟨i,arr,el,fr,hi,hblk,hold⟩:=hrel.read hrd
          rw[hj]at hi;cases hi
          obtain⟨y,hy,_,hay⟩:=hold off v hk
          refine⟨_,Be.2 ⟨_,_,hy,h1,rfl⟩,?_⟩
          have hcell:w.cell? ⟨j.blk,j.shift+off,none⟩=some y:=by rw[OH hblk];exact hay
          have hla:(do loadVar ty (<-asAddr (tmps.getD t undef)):Sem Value).run P w = .ok y w:=by
           simp only[Sem.run_bind,hev,asAddr,Sem.run_pure,Result.andThen_ok,loadVar,hagg,Option.isSome_none,DE,if_false,run_load,hcell]
          rw[Tw]
          refine(Sem.run_bind P w _ _).trans ?_
          refine(congrArg (fun r=>Result.andThen r _) hla).trans ?_
          simp only[Sem.run_bind,h2,Sem.run_pure,Result.andThen_ok]
         ·cases h
        ·cases h
       ·rename_i n
        split at h
        ·rename_i cs hrd
         cases h
         obtain⟨i,ys,hi,hyc,_,hlen,_,hcell⟩:=hrel.readN hrd
         rw[hj]at hi;cases hi
         refine⟨_,Be.2 ⟨_,_,Dn hyc,h1,rfl⟩,?_⟩
         have hl:=run_loadCells_list (P:=P) w ⟨j.blk,j.shift+off,none⟩ ys hcell
         rw[hlen]at hl
         have hla:(do loadVar ty (<-asAddr (tmps.getD t undef)):Sem Value).run P w = .ok (.agg ys.toArray) w:=by
          simp only[Sem.run_bind,hev,asAddr,Sem.run_pure,Result.andThen_ok,loadVar,hagg,Option.isSome_some,if_true,hsz n rfl,hl]
         rw[Tw]
         refine(Sem.run_bind P w _ _).trans ?_
         refine(congrArg (fun r=>Result.andThen r _) hla).trans ?_
         simp only[Sem.run_bind,h2,Sem.run_pure,Result.andThen_ok]
        ·cases h
      ·cases h
theorem LS {R:Cz} {w:World}:∀(ts:List Nat) (e:B6) (U:H),Dt C R U w->Dt C R (H0 ts e U) w/\(H0 ts e U).next=U.next
 | [],_,_,h=>⟨h,rfl⟩
 | t::ts,e,U,h=>by
  simp only[H0]
  split
  ·obtain⟨h1,h2⟩:=LS ts e _ (h.del _)
   exact⟨h1,h2⟩
  ·exact LS ts e U h
theorem Yf {R:Cz} {l:List V} {xs:List Value} (h:A1 R l=some xs):Ao R (Dh l)=some (if h:xs.toArray.size=1 then xs.toArray[0] else .tuple xs.toArray):=by
 match l,xs,h with
 | [],xs,h=>simp only[A1,AQ.injEq]at h;subst h;rfl
 | [v],xs,h=>
  obtain⟨x,ys,hx,hy,rfl⟩:=Be.1 h
  simp only[A1,AQ.injEq]at hy;subst hy
  simp[Dh,hx]
 | u::v::l,xs,h=>
  have hl:=Bh h
  rw[dif_neg (by simp at hl ⊢;omega)]
  exact J3 h
theorem gS (hD:∀f,Ce P E G f (D f)) {W:AH} (hW:Pw P E G W) (N:Nat) {f:FuncId} {fn:Func} (hf:P.funcs[f]? = some fn) {af af':fL} (hc:MO P G fn=some af') (hs:af.strip=af')
  (hok:JB P f=true):Ce P E G f (gT E D W N af):=by
 intro C hE hG R U w args xs v U' h hrel hxs
 refine⟨hok,?_⟩
 unfold MO at hc
 cases hb:fn.body with
 | none=>rw[hb]at hc;cases hc
 | some c=>
  cases hr:Gc P fn.results.toList with
  | none=>rw[hb,hr]at hc;cases hc
  | some rs=>
   rw[hb,hr]at hc
   simp only[AQ.injEq]at hc
   rw[<-hs]at hc
   obtain⟨nt,res,frees,body⟩:=af
   simp only[fL.strip,fL.mk.injEq]at hc
   obtain⟨rfl,rfl,_,hbody⟩:=hc
   unfold gT at h
   simp only at h
   have hlen:=Bh hxs
   refine calls_of_wp hf hb ?_
   have hsz:fn.ntmps<=(xs.toArray++HB (fn.ntmps-xs.toArray.size) undef).size:=by simp;omega
   have harg:∀(l:List V) (ys:List Value) (k:Nat),A1 R l=some ys->∀(t:Nat) (v:V),look (N3 k l) t=some v->∃y,k<=t/\ys[t-k]? = some y/\Ao R v=some y:=by
    intro l
    induction l with
    | nil=>intro ys k _ t v h;simp[N3,look]at h
    | cons u l ih=>
     intro ys k hc t v h
     obtain⟨y,zs,hy,hz,rfl⟩:=Be.1 hc
     simp only[N3,look]at h
     by_cases hk:k=t
     ·subst hk
      rw[if_pos (by simp)]at h
      cases h
      exact⟨y,AK _,by simp,hy⟩
     ·rw[if_neg (by simpa using hk)]at h
      obtain⟨q,h1,h2,h3⟩:=ih zs (k+1) hz t v h
      exact⟨q,by omega,by rw[show t-k=(t-(k+1))+1 by omega,Bb];exact h2,h3⟩
   have he0:B7 R (N3 0 args) (xs.toArray++HB (fn.ntmps-xs.toArray.size) undef):=by
    refine⟨fun k u hk=>?_⟩
    obtain⟨y,_,h2,h3⟩:=harg args xs 0 hxs k u hk
    refine .inr ⟨y,?_,h3⟩
    rw[Tu]at h2
    have hlt:k<xs.length:=by
     rcases Av k xs.length with h|h
     ·exact h
     ·rw[BF h]at h2;cases h2
    rw[Lp (by simpa using hlt)]
    simpa using h2
   have fin:∀{x:AX} {e:B6} {U1:H},Q1 E D W N body (N3 0 args) U=some (x,e,U1)->(x = .normal\/x = .ret) ->
     (match LL E e U1 rs with | some l=>some (Dh l,H0 frees e U1) | none=>none)=some (v,U') ->
     c.wp P (bodyPost P fn fun en w'=>∃R' x,G6 U.next R R'/\U.next<=U'.next/\Dt C R' U' w'/\Ao R' v=some x/\en = .returned x)
      { tmps:=xs.toArray++HB (fn.ntmps-xs.toArray.size) undef,defers:=[] } w:=by
    intro x e U1 hden hx hres
    cases hrv:LL E e U1 rs with
    | none=>rw[hrv]at hres;cases hres
    | some l=>
     rw[hrv]at hres
     simp only[AQ.injEq,Prod.mk.injEq]at hres
     obtain⟨rfl,rfl⟩:=hres
     refine yJ hD hW hE hG N fn.ntmps body c hbody.symm _ U x e U1 hden R _ w _ hrel he0 hsz rfl ?_
     intro R1 a1 w1 hx1 hn1 hrel1 he1 _ hd1
     obtain⟨ys,hyc,hyrun⟩:=N9 (P:=P) hrel1 he1 fn.results.toList _ l hr (hE ▸ hrv)
     obtain⟨hfree,hfn⟩:=LS frees e U1 hrel1
     have hres:(results fn a1.tmps).run P w1 = .ok (if h:ys.toArray.size=1 then ys.toArray[0] else .tuple ys.toArray) w1:=by
      unfold results
      refine(Sem.run_bind P w1 _ _).trans ?_
      rw[Md,Sem.run_map]
      refine(congrArg (fun r=>Result.andThen (Result.andThen r _) _) hyrun).trans rfl
     have hR:∃R' x,G6 U.next R R'/\U.next<=(H0 frees e U1).next/\Dt C R' (H0 frees e U1) w1/\Ao R' (Dh l)=some x /\
       Ending.returned (if h:ys.toArray.size=1 then ys.toArray[0] else .tuple ys.toArray) = .returned x:=
      ⟨R1,_,hx1,by rw[hfn];exact hn1,hfree,Yf hyc,rfl⟩
     rcases hx with rfl|rfl
     ·exact⟨hd1,_,hres,hR⟩
     ·exact⟨hd1,_,hres,hR⟩
   split at h
   ·cases h
   ·rename_i x e U1 hne hden
    refine fin hden ?_ h
    cases x with
    | normal=>exact .inl rfl
    | ret=>exact .inr rfl
    | exit id=>exact(hne id rfl).elim
   ·cases h
end Go.Og
