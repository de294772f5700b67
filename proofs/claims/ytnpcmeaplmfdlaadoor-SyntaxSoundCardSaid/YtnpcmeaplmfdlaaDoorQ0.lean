/- What the last text leans on, part 1 of 7: merged out of smaller texts. No condition. -/
import Derived.Tactics2
import Derived.Laws.Append
import Derived.Laws.Slices
import Derived.Laws.Build
import Derived.Laws.Pointers
import Derived.Laws.Small
import Derived.Laws.StructEq
import Derived.WalkSpells
import Derived.Laws.BytesArg
import Derived.Laws.IdiomCopy
import Derived.Lib.ConvBytes
import Derived.IntWalk
import Derived.LoopN
open Nat renaming le_refl -> AG,le_trans -> AN,beq_eq -> AQ,add -> AU,ble -> Ab,lt_or_ge -> Ad,beq -> Ag,ble_eq -> Ai,eq_of_beq_eq_true -> BO,zero_add -> B2,zero_le -> CD,blt_eq -> CK,blt -> Cf,le_succ -> D3,mod_eq_of_lt -> Ew,mul_one -> FC,mul_le_mul_right -> FD,min -> Fz,mul_div_cancel -> GU,mul -> GY,eq_of_testBit_eq -> HF,add_assoc -> Hg,sub_zero -> L5,add_zero -> L6,eq_zero_or_pos -> PF,testBit_mod_two_pow -> PI,add_mul -> PJ,testBit_or -> RX,min_eq_left -> aq,sub_self -> eJ,testBit -> wQ,add_lt_add_iff_right -> ABi
open Bool renaming and_eq_true -> AF,or_eq_false_iff -> BN,or_eq_true -> Bg,false_eq_true -> Cd,false_or -> E1,eq_false_iff -> FP,or_false -> JK,not_eq_true -> L9,eq_iff_iff -> NR
open Option renaming some -> AK,map_eq_some_iff -> Ao,map_some -> Bo,bind_eq_some_iff -> D2,bind_some -> L4,map_none -> al
open List renaming length_cons -> AM,getElem?_eq_getElem -> AY,getElem?_eq_none -> Af,length_append -> Aw,getElem?_append_left -> Ay,mem_cons -> BF,replicate -> BT,getElem?_append_right -> BX,eq_nil_of_length_eq_zero -> Bh,getElem?_map -> Bk,map_cons -> B3,getElem?_drop -> CL,getElem?_cons_succ -> CN,length_take -> Cl,getElem?_take -> DN,mem_of_getElem? -> D5,length_map -> Ea,ext_getElem? -> FO,mem_append -> G1,range -> Hi,take_of_length_le -> I0,nil_append -> JI,map_nil -> L7,cons_append -> L8,drop_eq_getElem_cons -> MA,mapM_cons -> RZ,all_cons -> Vp,replicate_succ -> bC,getElem?_range -> bD,drop_take -> nM,flatten_cons -> wS
open Array renaming getElem?_setIfInBounds -> A1,getElem?_eq_none -> Bq,size_setIfInBounds -> Dq,getD_eq_getD_getElem? -> D8,length_toList -> EX,ext' -> GV,getElem?_toList -> GZ,replicate -> G2,getElem?_append_left -> LG,mapM_eq_mapM_toList -> MC,map -> jO,getElem?_eq_some_iff -> nN
open BitVec renaming ofInt -> BL
namespace Go.Og
structure BS where
 len:Nat
 val:Nat
 deriving DecidableEq,Inhabited
def BS.get (s:BS) (i:Nat):Nat:=Nat.mod (Nat.shiftRight s.val (GY 8 i)) 256
def BS.toList (s:BS):List UInt8:=(Hi s.len).map fun i=>UInt8.ofNat (s.get i)
def BS.low (s:BS):Nat:=Nat.mod s.val (Nat.pow 2 (GY 8 s.len))
def BS.beq (a b:BS):Bool:=Ag a.len b.len&&Ag a.low b.low
def BS.cat (a b:BS):BS:=⟨AU a.len b.len,Nat.lor a.low (Nat.shiftLeft b.val (GY 8 a.len))⟩
def BS.sub (s:BS) (lo hi:Nat):BS:=⟨Nat.sub hi lo,Nat.mod (Nat.shiftRight s.val (GY 8 lo)) (Nat.pow 2 (GY 8 (Nat.sub hi lo)))⟩
def BS.ofList:List UInt8->BS
 | []=>⟨0,0⟩
 | c::l=>⟨Nat.succ (BS.ofList l).len,AU c.toNat (GY 256 (BS.ofList l).val)⟩
theorem BS.get_lt (s:BS) (i:Nat):s.get i<256:=Nat.mod_lt _ (by decide)
theorem BS.length_toList (s:BS):s.toList.length=s.len:=by simp[BS.toList]
theorem BS.getElem?_toList (s:BS) (i:Nat):s.toList[i]? = if i<s.len then some (UInt8.ofNat (s.get i))else none:=by
 simp only[BS.toList,Bk]
 by_cases h:i<s.len
 ·rw[if_pos h,bD h];rfl
 ·rw[if_neg h,Af (by simpa using h)];rfl
theorem BS.ofNat_inj {a b:Nat} (ha:a<256) (hb:b<256) (h:UInt8.ofNat a=UInt8.ofNat b):a=b:=by
 have:=congrArg UInt8.toNat h
 simp only[UInt8.toNat_ofNat']at this
 omega
theorem BS.testBit_get (s:BS) (i j:Nat):(s.get i).testBit j=(decide (j<8)&&s.val.testBit (8*i+j)):=by
 show wQ ((s.val >>> (8*i)) % (2 ^ 8)) j=_
 rw[PI,Nat.testBit_shiftRight]
theorem BS.testBit_low (s:BS) (j:Nat):s.low.testBit j=(decide (j<8*s.len)&&s.val.testBit j):=by
 show wQ (s.val % (2 ^ (8*s.len))) j=_
 rw[PI]
theorem BS.ext_get {a b:BS} (hl:a.len=b.len) (h:∀i,i<a.len->a.get i=b.get i):a.toList=b.toList:=by
 apply FO
 intro i
 rw[BS.getElem?_toList,BS.getElem?_toList,hl]
 by_cases hi:i<b.len
 ·rw[if_pos hi,if_pos hi,h i (by omega)]
 ·rw[if_neg hi,if_neg hi]
theorem BS.get_eq {a b:BS} (h:a.toList=b.toList):a.len=b.len/\∀i,i<a.len->a.get i=b.get i:=by
 have hl:a.len=b.len:=by rw[<-BS.length_toList,h,BS.length_toList]
 refine⟨hl,fun i hi=>?_⟩
 have:=congrArg (·[i]?) h
 simp only[BS.getElem?_toList]at this
 rw[if_pos hi,if_pos (by omega)]at this
 exact BS.ofNat_inj (a.get_lt i) (b.get_lt i) (AK.inj this)
theorem BS.low_eq {a b:BS} (hl:a.len=b.len):a.low=b.low↔∀i,i<a.len->a.get i=b.get i:=by
 constructor
 ·intro h i hi
  apply HF
  intro j
  rw[BS.testBit_get,BS.testBit_get]
  by_cases hj:j<8
  ·have:=congrArg (fun n=>n.testBit (8*i+j)) h
   simp only[BS.testBit_low]at this
   have h1:(8*i+j<8*a.len):=by omega
   have h2:(8*i+j<8*b.len):=by omega
   simpa[hj,h1,h2]using this
  ·simp[hj]
 ·intro h
  apply HF
  intro j
  rw[BS.testBit_low,BS.testBit_low,<-hl]
  by_cases hj:j<8*a.len
  ·have:=congrArg (fun n=>n.testBit (j % 8)) (h (j / 8) (by omega))
   simp only[BS.testBit_get]at this
   have h1:j % 8<8:=by omega
   rw[Nat.div_add_mod]at this
   simpa[h1,hj]using this
  ·simp[hj]
theorem BS.beq_iff {a b:BS}:a.beq b=true↔a.toList=b.toList:=by
 simp only[BS.beq,AF,AQ]
 constructor
 ·rintro⟨hl,h⟩;exact BS.ext_get hl ((BS.low_eq hl).1 h)
 ·intro h
  obtain⟨hl,hg⟩:=BS.get_eq h
  exact⟨hl,(BS.low_eq hl).2 hg⟩
theorem BS.beq_eq (a b:BS):a.beq b=decide (a.toList=b.toList):=by
 by_cases h:a.toList=b.toList
 ·rw[BS.beq_iff.2 h];simp[h]
 ·rw[decide_eq_false h,FP];exact fun hh=>h (BS.beq_iff.1 hh)
theorem BS.get_cat_left {a b:BS} {i:Nat} (h:i<a.len):(a.cat b).get i=a.get i:=by
 apply HF
 intro j
 rw[BS.testBit_get,BS.testBit_get]
 by_cases hj:j<8
 ·show (decide (j<8)&&wQ (a.low ||| b.val <<< (8*a.len)) (8*i+j))=_
  rw[RX,BS.testBit_low,Nat.testBit_shiftLeft]
  have h1:8*i+j<8*a.len:=by omega
  have h2:¬(8*a.len<=8*i+j):=by omega
  simp[h1,h2]
 ·simp[hj]
theorem BS.get_cat_right {a b:BS} {i:Nat} (h:a.len<=i):(a.cat b).get i=b.get (i-a.len):=by
 apply HF
 intro j
 rw[BS.testBit_get,BS.testBit_get]
 by_cases hj:j<8
 ·show (decide (j<8)&&wQ (a.low ||| b.val <<< (8*a.len)) (8*i+j))=_
  rw[RX,BS.testBit_low,Nat.testBit_shiftLeft]
  have h1:¬(8*i+j<8*a.len):=by omega
  have h2:8*i+j ≥ 8*a.len:=by omega
  have h3:8*i+j-8*a.len=8*(i-a.len)+j:=by omega
  simp[h1,h2,h3]
 ·simp[hj]
theorem BS.toList_cat (a b:BS):(a.cat b).toList=a.toList++b.toList:=by
 apply FO
 intro i
 rw[List.getElem?_append,BS.length_toList,BS.getElem?_toList,BS.getElem?_toList,BS.getElem?_toList]
 have hl:(a.cat b).len=a.len+b.len:=rfl
 rw[hl]
 by_cases h:i<a.len
 ·rw[if_pos h,if_pos (by omega),if_pos h,BS.get_cat_left h]
 ·rw[if_neg h]
  by_cases h2:i<a.len+b.len
  ·rw[if_pos h2,if_pos (by omega),BS.get_cat_right (by omega)]
  ·rw[if_neg h2,if_neg (by omega)]
theorem BS.get_sub {s:BS} {lo hi i:Nat} (h:i<hi-lo):(s.sub lo hi).get i=s.get (lo+i):=by
 apply HF
 intro j
 rw[BS.testBit_get,BS.testBit_get]
 by_cases hj:j<8
 ·show (decide (j<8)&&wQ ((s.val >>> (8*lo)) % (2 ^ (8*(hi-lo)))) (8*i+j))=_
  rw[PI,Nat.testBit_shiftRight]
  have h1:8*i+j<8*(hi-lo):=by omega
  have h2:8*lo+(8*i+j)=8*(lo+i)+j:=by omega
  simp[h1,h2]
 ·simp[hj]
theorem BS.toList_sub {s:BS} {lo hi:Nat} (h:hi<=s.len):(s.sub lo hi).toList=(s.toList.drop lo).take (hi-lo):=by
 apply FO
 intro i
 rw[DN,CL,BS.getElem?_toList,BS.getElem?_toList]
 have hl:(s.sub lo hi).len=hi-lo:=rfl
 rw[hl]
 by_cases h1:i<hi-lo
 ·rw[if_pos h1,if_pos h1,if_pos (by omega),BS.get_sub h1]
 ·rw[if_neg h1,if_neg h1]
theorem BS.len_ofList:∀l:List UInt8,(BS.ofList l).len=l.length
 | []=>rfl
 | _::l=>by simp[BS.ofList,BS.len_ofList l]
theorem BS.get_ofList:∀(l:List UInt8) (i:Nat) (c:UInt8),l[i]? = some c->(BS.ofList l).get i=c.toNat
 | [],i,c,h=>by simp at h
 | d::l,0,c,h=>by
  simp at h;subst h
  show ((d.toNat+256*(BS.ofList l).val) >>> (8*0)) % 256=_
  have:=d.toNat_lt
  rw[Nat.mul_zero,Nat.shiftRight_zero]
  omega
 | d::l,i+1,c,h=>by
  simp at h
  rw[<-BS.get_ofList l i c h]
  show ((d.toNat+256*(BS.ofList l).val) >>> (8*(i+1))) % 256=((BS.ofList l).val >>> (8*i)) % 256
  have hd:=d.toNat_lt
  rw[Nat.mul_succ,Nat.add_comm (8*i) 8,Nat.shiftRight_add]
  have:(d.toNat+256*(BS.ofList l).val) >>> 8=(BS.ofList l).val:=by
   rw[Nat.shiftRight_eq_div_pow];omega
  rw[this]
theorem BS.toList_ofList (l:List UInt8):(BS.ofList l).toList=l:=by
 apply FO
 intro i
 rw[BS.getElem?_toList,BS.len_ofList]
 by_cases h:i<l.length
 ·rw[if_pos h]
  have h2:l[i]? = some l[i]:=AY h
  rw[BS.get_ofList l i _ h2,h2]
  simp
 ·rw[if_neg h,Af (by omega)]
structure BI where
 blk:Nat
 shift:Nat
 endc:Nat
inductive Vo where
 | ex (c:Nat)
 | op (esz:Nat)
 deriving DecidableEq,Inhabited
abbrev Ren:=Nat->Option BI
inductive V where
 | dead
 | bool (b:Bool)
 | int (k:IntKind) (n:Int)
 | str (s:BS)
 | nilp
 | ptr (b off:Nat)
 | nils
 | sl (b off len:Nat) (cap:Vo)
 | sle (b off k esz:Nat)
 | nilm
 | mp (b:Nat)
 | fn (f:FuncId) (first captured:List V)
 | nilf
 | ifc (t:TypeId) (v:V)
 | nili
 | agg (l:List V)
 | tup (l:List V)
 deriving Inhabited
def BI.cap (i:BI) (esz off:Nat):Nat:=(i.endc-off) / esz
mutual
def Ar (R:Ren):V->Option Value
 | .dead=>none
 | .bool b=>some (.bool b)
 | .int k n=>some (.int k n)
 | .str l=>some (.string ⟨l.toList.toArray⟩)
 | .nilp=>some (.pointer none)
 | .ptr b off=>(R b).map fun i => .pointer (some ⟨i.blk,i.shift+off,none⟩)
 | .nils=>some (.slice none 0 0)
 | .sl b off len (.ex c)=>(R b).map fun i => .slice (some ⟨i.blk,i.shift+off,none⟩) len c
 | .sl b off len (.op e)=>(R b).bind fun i=>if len<=i.cap e off/\i.cap e off<=9223372036854775807 then some (.slice (some ⟨i.blk,i.shift+off,none⟩) len (i.cap e off))else none
 | .sle b off k e=>(R b).bind fun i=>if k<=i.cap e off then some (.slice (some (if i.cap e off=k then⟨i.blk,i.shift+off,none⟩else(⟨i.blk,i.shift+off,none⟩:Addr).add (k*e))) 0 (i.cap e off-k))else none
 | .nilm=>some (.map none)
 | .mp b=>(R b).map fun i => .map (some i.blk)
 | .fn f a c=>match Az R a,Az R c with
  | some x,some y=>some (.func (.func f) x.toArray y.toArray)
  | _,_=>none
 | .nilf=>some .nilFunc
 | .ifc t v=>match Ar R v with
  | some x=>some (.iface t x)
  | none=>none
 | .nili=>some .nilIface
 | .agg l=>match Az R l with
  | some x=>some (.agg x.toArray)
  | none=>none
 | .tup l=>match Az R l with
  | some x=>some (.tuple x.toArray)
  | none=>none
def Az (R:Ren):List V->Option (List Value)
 | []=>some []
 | v::l=>match Ar R v,Az R l with
  | some x,some y=>some (x::y)
  | _,_=>none
end
def Le (R R':Ren):Prop:=∀b i,R b=some i->R' b=some i
theorem Le.refl (R:Ren):Le R R:=fun _ _ h=>h
theorem Le.trans {R S T:Ren} (h:Le R S) (k:Le S T):Le R T:=fun b i x=>k b i (h b i x)
mutual
theorem Ch {R R':Ren} (h:Le R R'):∀(v:V) (x:Value),Ar R v=some x->Ar R' v=some x
 | .dead,x,e=>by simp[Ar]at e
 | .bool b,x,e=>by simpa[Ar]using e
 | .int k n,x,e=>by simpa[Ar]using e
 | .str l,x,e=>by simpa[Ar]using e
 | .nilp,x,e=>by simpa[Ar]using e
 | .ptr b off,x,e=>by
  simp only[Ar,Ao]at e ⊢
  obtain⟨i,hi,rfl⟩:=e;exact⟨i,h b i hi,rfl⟩
 | .nils,x,e=>by simpa[Ar]using e
 | .sl b off len (.ex c),x,e=>by
  simp only[Ar,Ao]at e ⊢
  obtain⟨i,hi,rfl⟩:=e;exact⟨i,h b i hi,rfl⟩
 | .sl b off len (.op _),x,e=>by
  simp only[Ar,D2]at e ⊢
  obtain⟨i,hi,e⟩:=e;exact⟨i,h b i hi,e⟩
 | .sle b off k _,x,e=>by
  simp only[Ar,D2]at e ⊢
  obtain⟨i,hi,e⟩:=e;exact⟨i,h b i hi,e⟩
 | .nilm,x,e=>by simpa[Ar]using e
 | .mp b,x,e=>by
  simp only[Ar,Ao]at e ⊢
  obtain⟨i,hi,rfl⟩:=e;exact⟨i,h b i hi,rfl⟩
 | .fn f a c,x,e=>by
  simp only[Ar]at e ⊢
  cases ha:Az R a<;>simp only[ha]at e
  ·cases e
  ·cases hc:Az R c<;>simp only[hc]at e
   ·cases e
   ·rw[EP h a _ ha,EP h c _ hc];exact e
 | .nilf,x,e=>by simpa[Ar]using e
 | .ifc t v,x,e=>by
  simp only[Ar]at e ⊢
  cases hv:Ar R v<;>simp only[hv]at e
  ·cases e
  ·rw[Ch h v _ hv];exact e
 | .nili,x,e=>by simpa[Ar]using e
 | .agg l,x,e=>by
  simp only[Ar]at e ⊢
  cases hl:Az R l<;>simp only[hl]at e
  ·cases e
  ·rw[EP h l _ hl];exact e
 | .tup l,x,e=>by
  simp only[Ar]at e ⊢
  cases hl:Az R l<;>simp only[hl]at e
  ·cases e
  ·rw[EP h l _ hl];exact e
theorem EP {R R':Ren} (h:Le R R'):∀(l:List V) (x:List Value),Az R l=some x->Az R' l=some x
 | [],x,e=>by simpa[Az]using e
 | v::l,x,e=>by
  simp only[Az]at e ⊢
  cases hv:Ar R v<;>simp only[hv]at e
  ·cases e
  ·cases hl:Az R l<;>simp only[hl]at e
   ·cases e
   ·rw[Ch h v _ hv,EP h l _ hl];exact e
end
theorem Ba {R:Ren}:∀{l:List V} {x:List Value},Az R l=some x->x.length=l.length
 | [],x,e=>by simp only[Az,AK.injEq]at e;subst e;rfl
 | v::l,x,e=>by
  simp only[Az]at e
  cases hv:Ar R v<;>simp only[hv]at e
  ·cases e
  ·cases hl:Az R l<;>simp only[hl]at e
   ·cases e
   ·cases e;simp[Ba hl]
theorem BM {R:Ren} {v:V} {l:List V} {x:List Value}:Az R (v::l)=some x↔∃a b,Ar R v=some a/\Az R l=some b/\x=a::b:=by
 simp only[Az]
 cases hv:Ar R v<;>cases hl:Az R l<;>simp[eq_comm]
theorem EE {R:Ren}:∀{l:List V} {x:List Value},Az R l=some x->∀{k:Nat} {v:V},l[k]? = some v->∃a,Ar R v=some a/\x[k]? = some a
 | [],x,e,k,v,h=>by simp at h
 | v::l,x,e,k,u,h=>by
  obtain⟨a,b,ha,hb,rfl⟩:=BM.1 e
  cases k with
  | zero=>simp at h;subst h;exact⟨a,ha,by simp⟩
  | succ k=>simp at h;obtain⟨c,hc,hk⟩:=EE hb h;exact⟨c,hc,by simpa using hk⟩
theorem Lm {R:Ren}:∀{l:List V} {x:List Value},x.length=l.length->(∀(k:Nat) (v:V),l[k]? = some v->∃a,Ar R v=some a/\x[k]? = some a)->Az R l=some x
 | [],x,e,h=>by simp at e;subst e;rfl
 | v::l,[],e,h=>by simp at e
 | v::l,a::x,e,h=>by
  obtain⟨b,hb,hx⟩:=h 0 v (by simp)
  simp at hx;subst hx
  refine BM.2 ⟨a,x,hb,Lm (by simpa using e) (fun k u hu=>?_),rfl⟩
  obtain⟨c,hc,hk⟩:=h (k+1) u (by simpa using hu)
  exact⟨c,hc,by simpa using hk⟩
theorem G9 {R:Ren} {l m:List V} {x y:List Value} (h:Az R l=some x) (k:Az R m=some y):Az R (l++m)=some (x++y):=by
 induction l generalizing x with
 | nil=>simp only[Az,AK.injEq]at h;subst h;simpa using k
 | cons v l ih=>obtain⟨a,b,ha,hb,rfl⟩:=BM.1 h;exact BM.2 ⟨a,b++y,ha,ih hb,rfl⟩
theorem OG {R:Ren} {l:List V} {x:List Value} (h:Az R l=some x) (n:Nat):Az R (l.take n)=some (x.take n):=by
 induction l generalizing x n with
 | nil=>simp only[Az,AK.injEq]at h;subst h;simp[Az]
 | cons v l ih=>
  obtain⟨a,b,ha,hb,rfl⟩:=BM.1 h
  cases n with
  | zero=>simp[Az]
  | succ n=>exact BM.2 ⟨a,b.take n,ha,ih hb n,rfl⟩
theorem Tx {R:Ren} {l:List V} {x:List Value} (h:Az R l=some x) (n:Nat):Az R (l.drop n)=some (x.drop n):=by
 induction l generalizing x n with
 | nil=>simp only[Az,AK.injEq]at h;subst h;simp[Az]
 | cons v l ih=>
  obtain⟨a,b,ha,hb,rfl⟩:=BM.1 h
  cases n with
  | zero=>simpa using h
  | succ n=>simpa using ih hb n
def V.one:V->Bool
 | .agg _ | .tup _ | .dead=>false
 | _=>true
def V.cells:V->List V
 | .agg l=>l
 | v=>[v]
theorem Ha {R:Ren} {l:List V} {a:Value} (h:Ar R (.agg l)=some a):∃x,Az R l=some x/\a = .agg x.toArray:=by
 simp only[Ar]at h
 cases hl:Az R l<;>simp only[hl]at h
 ·cases h
 ·cases h;exact⟨_,rfl,rfl⟩
theorem SX {R:Ren} {l:List V} {a:Value} (h:Ar R (.tup l)=some a):∃x,Az R l=some x/\a = .tuple x.toArray:=by
 simp only[Ar]at h
 cases hl:Az R l<;>simp only[hl]at h
 ·cases h
 ·cases h;exact⟨_,rfl,rfl⟩
theorem DX {R:Ren} {l:List V} {x:List Value} (h:Az R l=some x):Ar R (.agg l)=some (.agg x.toArray):=by simp only[Ar,h]
theorem Jk {R:Ren} {l:List V} {x:List Value} (h:Az R l=some x):Ar R (.tup l)=some (.tuple x.toArray):=by simp only[Ar,h]
theorem SY {R:Ren} {v:V} {a:Value} (hv:v.one=true) (h:Ar R v=some a):a.cells=#[a]/\a.oneCell'=true:=by
 cases v with
 | dead=>cases hv
 | agg l=>cases hv
 | tup l=>cases hv
 | bool b=>cases h;exact⟨rfl,rfl⟩
 | int k n=>cases h;exact⟨rfl,rfl⟩
 | str l=>cases h;exact⟨rfl,rfl⟩
 | nilp=>cases h;exact⟨rfl,rfl⟩
 | nils=>cases h;exact⟨rfl,rfl⟩
 | nilm=>cases h;exact⟨rfl,rfl⟩
 | nilf=>cases h;exact⟨rfl,rfl⟩
 | nili=>cases h;exact⟨rfl,rfl⟩
 | ptr b off=>
  simp only[Ar,Ao]at h
  obtain⟨i,_,rfl⟩:=h;exact⟨rfl,rfl⟩
 | mp b=>
  simp only[Ar,Ao]at h
  obtain⟨i,_,rfl⟩:=h;exact⟨rfl,rfl⟩
 | sl b off len cap=>
  cases cap with
  | ex c=>
   simp only[Ar,Ao]at h
   obtain⟨i,_,rfl⟩:=h;exact⟨rfl,rfl⟩
  | op e=>
   simp only[Ar,D2]at h
   obtain⟨i,_,h⟩:=h
   by_cases hc:len<=i.cap e off/\i.cap e off<=9223372036854775807
   ·rw[if_pos hc]at h;cases h;exact⟨rfl,rfl⟩
   ·rw[if_neg hc]at h;cases h
 | sle b off k e=>
  simp only[Ar,D2]at h
  obtain⟨i,_,h⟩:=h
  by_cases hc:k<=i.cap e off
  ·rw[if_pos hc]at h;cases h;exact⟨rfl,rfl⟩
  ·rw[if_neg hc]at h;cases h
 | ifc t v=>
  simp only[Ar]at h
  cases hx:Ar R v<;>simp only[hx]at h
  ·cases h
  ·cases h;exact⟨rfl,rfl⟩
 | fn f x y=>
  simp only[Ar]at h
  cases hx:Az R x<;>simp only[hx]at h
  ·cases h
  ·cases hy:Az R y<;>simp only[hy]at h
   ·cases h
   ·cases h;exact⟨rfl,rfl⟩
theorem HZ {R:Ren} {v:V} {a:Value} (h:Ar R v=some a):Az R v.cells=some a.cells.toList:=by
 cases v with
 | dead=>cases h
 | agg l=>obtain⟨x,hx,rfl⟩:=Ha h;simpa[V.cells,Value.cells]using hx
 | tup l=>
  obtain⟨x,hx,rfl⟩:=SX h
  exact BM.2 ⟨_,[],h,rfl,rfl⟩
 | _=>
  rw[(SY rfl h).1]
  exact BM.2 ⟨a,[],h,rfl,rfl⟩
inductive Gv where
 | cells (l:List V)
 | map (l:List (V × V))
 | siter (s:List UInt8) (pos:Nat)
 | unit (t:TypeId)
 deriving Inhabited
def look {α:Type}:List (Nat × α)->Nat->Option α
 | [],_=>none
 | (k,b)::l,id=>if Ag k id then some b else look l id
def KG {α:Type}:List (Nat × α)->Nat->α->List (Nat × α)
 | [],_,_=>[]
 | (k,b)::l,id,c=>if Ag k id then(k,c)::l else(k,b)::KG l id c
def drop {α:Type}:List (Nat × α)->Nat->List (Nat × α)
 | [],_=>[]
 | (k,b)::l,id=>if Ag k id then drop l id else(k,b)::drop l id
theorem HJ {α:Type} (l:List (Nat × α)) (id id':Nat) (c:α):look (KG l id c) id'=if id=id' then(look l id').map (fun _=>c)else look l id':=by
 induction l with
 | nil=>simp[KG,look]
 | cons p l ih=>
  obtain⟨k,b⟩:=p
  by_cases h:k=id
  ·subst h
   by_cases h':k=id'
   ·simp[KG,look,h']
   ·simp[KG,look,h']
  ·simp only[KG,look,AQ,h,if_false,ih]
   by_cases h':k=id'
   ·subst h';simp[Ne.symm h]
   ·simp[h']
theorem MJ {α:Type} (l:List (Nat × α)) (id id':Nat):look (drop l id) id'=if id=id' then none else look l id':=by
 induction l with
 | nil=>simp[drop,look]
 | cons p l ih=>
  obtain⟨k,b⟩:=p
  by_cases h:k=id
  ·subst h
   simp only[drop,AQ,if_true,ih,look]
   by_cases h':k=id'<;>simp[h']
  ·simp only[drop,look,AQ,h,if_false,ih]
   by_cases h':k=id'
   ·subst h';simp[Ne.symm h]
   ·simp[h']
abbrev EB:=List (Nat × Gv)
structure H where
 next:Nat
 bl:EB
 deriving Inhabited
def H.add (Z:H) (b:Gv):H:=⟨Z.next+1,(Z.next,b)::Z.bl⟩
def H.set (Z:H) (id:Nat) (b:Gv):H:=⟨Z.next,KG Z.bl id b⟩
def H.del (Z:H) (id:Nat):H:=⟨Z.next,drop Z.bl id⟩
def Hd (R:Ren) (s:Nat) (l:List V) (arr:Array Value):Prop:=
 ∀(k:Nat) (v:V),l[k]? = some v->∃a,Ar R v=some a/\a.oneCell'=true/\arr[s+k]? = some a
theorem Hd.mono {R R':Ren} {s:Nat} {l:List V} {arr:Array Value} (h:Hd R s l arr) (hle:Le R R'):Hd R' s l arr:=fun k v hk=>
 let ⟨a,ha,h1,h2⟩:=h k v hk
 ⟨a,Ch hle v a ha,h1,h2⟩
def Cp (R:Ren):List (V × V)->List MapEntry->Prop
 | [],[]=>True
 | (k,v)::l,e::es=>Ar R k=some e.key/\Ar R v=some e.val/\Cp R l es
 | _,_=>False
theorem Cp.mono {R R':Ren} (hle:Le R R'):∀{l:List (V × V)} {es:List MapEntry},Cp R l es->Cp R' l es
 | [],[],_=>trivial
 | (_,_)::_,_::_,⟨h1,h2,h3⟩=>⟨Ch hle _ _ h1,Ch hle _ _ h2,Cp.mono hle h3⟩
 | [],_::_,h=>h.elim
 | _::_,[],h=>h.elim
def E4 (R:Ren) (i:BI) (b:Gv) (w:World):Prop:=
 match b with
 | .cells l=>∃arr el lo hi,w.heap[i.blk]? = some (.cells arr el (lo,hi))/\Hd R i.shift l arr/\i.shift+i.endc<=arr.size/\l.length<=i.endc /\
   (∀off,off<arr.size->¬(lo<=off/\off<hi))
 | .map l=>∃es clock,w.heap[i.blk]? = some (.map es clock)/\Cp R l es.toList
 | .siter s p=>w.heap[i.blk]? = some (.stringIter ⟨s.toArray⟩ p)
 | .unit t=>∃fr,w.heap[i.blk]? = some (.cells #[] t fr)
def IB (R:Ren) (i:BI) (b:Gv) (w:World):Prop:=
 match b with
 | .cells l=>∃arr el fr,w.heap[i.blk]? = some (.cells arr el fr)/\Hd R i.shift l arr
 | _=>False
theorem E4.mono {R R':Ren} {i:BI} {b:Gv} {w w':World} (h:E4 R i b w) (hle:Le R R') (hw:w'.heap[i.blk]? = w.heap[i.blk]?):E4 R' i b w':=by
 cases b with
 | cells l=>
  obtain⟨arr,el,lo,hi,h1,h2,h3,h4,h5⟩:=h
  exact⟨arr,el,lo,hi,hw.trans h1,h2.mono hle,h3,h4,h5⟩
 | map l=>
  obtain⟨es,c,h1,h2⟩:=h
  exact⟨es,c,hw.trans h1,h2.mono hle⟩
 | siter s p=>exact hw.trans h
 | unit t=>obtain⟨fr,h1⟩:=h;exact⟨fr,hw.trans h1⟩
theorem IB.mono {R R':Ren} {i:BI} {b:Gv} {w w':World} (h:IB R i b w) (hle:Le R R') (hw:w'.heap[i.blk]? = w.heap[i.blk]?):IB R' i b w':=by
 cases b with
 | cells l=>
  obtain⟨arr,el,fr,h1,h2⟩:=h
  exact⟨arr,el,fr,hw.trans h1,h2.mono hle⟩
 | _=>exact h.elim
theorem E4.lt {R:Ren} {i:BI} {b:Gv} {w:World} (h:E4 R i b w):i.blk<w.heap.size:=by
 have:∃o,w.heap[i.blk]? = some o:=by
  cases b with
  | cells l=>obtain⟨arr,el,lo,hi,h1,_⟩:=h;exact⟨_,h1⟩
  | map l=>obtain⟨es,c,h1,_⟩:=h;exact⟨_,h1⟩
  | siter s p=>exact⟨_,h⟩
  | unit t=>obtain⟨fr,h1⟩:=h;exact⟨_,h1⟩
 obtain⟨o,ho⟩:=this
 rcases Ad i.blk w.heap.size with h|h
 ·exact h
 ·simp[Bq h]at ho
structure Cx where
 O:Nat->Prop
 w0:World
 E:EB
 G:Nat->Bool
structure DL (C:Cx) (R:Ren) (Z:H) (w:World):Prop where
 fresh:∀id,Z.next<=id->R id=none
 own:∀id b,look Z.bl id=some b->∃i,R id=some i/\C.O i.blk/\E4 R i b w
 inj:∀id id' b b' i i',look Z.bl id=some b->look Z.bl id'=some b'->R id=some i->R id'=some i'->i.blk=i'.blk->id=id'
 ext:∀id b,look C.E id=some b->∃i,R id=some i/\¬C.O i.blk/\IB R i b w
 glob:∀g,C.G g=true->∃i,R g=some i/\i.blk=g/\i.shift=0
 fr:∀blk,¬C.O blk->w.heap[blk]? = C.w0.heap[blk]?
 size:C.w0.heap.size<=w.heap.size
 new:∀blk,C.w0.heap.size<=blk->C.O blk
 os:w.os=C.w0.os
 tape:w.tape=C.w0.tape
 output:w.output=C.w0.output
def Gw (n:Nat) (R R':Ren):Prop:=∀id,id<n->R' id=R id
theorem Gw.refl (n:Nat) (R:Ren):Gw n R R:=fun _ _=>rfl
theorem Gw.trans {n m:Nat} {R S T:Ren} (h:Gw n R S) (k:Gw m S T) (hn:n<=m):Gw n R T:=fun id hi=>(k id (by omega)).trans (h id hi)
theorem Gw.le {n:Nat} {R R':Ren} (h:Gw n R R') (hf:∀id,n<=id->R id=none):Le R R':=fun id i hi=>by
 rcases Ad id n with hl|hl
 ·rw[h id hl];exact hi
 ·rw[hf id hl]at hi;cases hi
def Hl (R:Ren) (id:Nat) (i:BI):Ren:=fun k=>if k=id then some i else R k
theorem Bv (R:Ren) (id:Nat) (i:BI):Hl R id i id=some i:=by simp[Hl]
theorem Bb {R:Ren} {id k:Nat} {i:BI} (h:k≠id):Hl R id i k=R k:=by simp[Hl,h]
theorem EM (R:Ren) (n:Nat) (i:BI):Gw n R (Hl R n i):=fun id hi=>Bb (by omega)
theorem DL.next_of_own {C:Cx} {R:Ren} {Z:H} {w:World} (h:DL C R Z w) {id:Nat} {b:Gv} (hb:look Z.bl id=some b):id<Z.next:=by
 rcases Ad id Z.next with hl|hl
 ·exact hl
 ·obtain⟨i,hi,_⟩:=h.own id b hb
  rw[h.fresh id hl]at hi;cases hi
theorem DL.drawn {C:Cx} {R:Ren} {Z:H} {w:World} (h:DL C R Z w) (d:Nat):DL C R Z { w with drawn:=d }:=
 ⟨h.fresh,h.own,h.inj,h.ext,h.glob,h.fr,h.size,h.new,h.os,h.tape,h.output⟩
structure FA (w w':World):Prop where
 old:∀k,k<w.heap.size->w'.heap[k]? = w.heap[k]?
 size:w'.heap.size=w.heap.size+1
 os:w'.os=w.os
 tape:w'.tape=w.tape
 output:w'.output=w.output
theorem FA.of_alloc (w:World) (o:Obj):FA w (w.alloc o):=
 ⟨fun k hk=>by show (w.heap.push o)[k]? = _;rw[Array.getElem?_push,if_neg (by omega)],World.size_alloc w o,rfl,rfl,rfl⟩
theorem DL.alloc {C:Cx} {R:Ren} {Z:H} {w w':World} (h:DL C R Z w) (hn:FA w w') (b:Gv) (i:BI) (hi:i.blk=w.heap.size)
  (hb:E4 (Hl R Z.next i) i b w'):DL C (Hl R Z.next i) (Z.add b) w':=by
 have hle:Le R (Hl R Z.next i):=(EM R Z.next i).le h.fresh
 have hold:=hn.old
 have hO:C.O w.heap.size:=h.new _ h.size
 refine⟨?_,?_,?_,?_,?_,?_,?_,h.new,hn.os.trans h.os,hn.tape.trans h.tape,hn.output.trans h.output⟩
 ·intro id hid
  have hid':Z.next+1<=id:=hid
  rw[Bb (by omega)];exact h.fresh id (by omega)
 ·intro id c hc
  by_cases he:id=Z.next
  ·subst he
   simp only[H.add,look,AQ,if_true,AK.injEq]at hc
   subst hc
   exact⟨i,Bv _ _ _,hi ▸ hO,hb⟩
  ·simp only[H.add,look,AQ,Ne.symm he,if_false]at hc
   obtain⟨j,hj,hOj,hok⟩:=h.own id c hc
   exact⟨j,by rw[Bb he];exact hj,hOj,hok.mono hle (hold _ hok.lt)⟩
 ·intro id id' c c' j j' hc hc' hj hj' hbl
  by_cases he:id=Z.next
  ·by_cases he':id'=Z.next
   ·rw[he,he']
   ·exfalso
    subst he
    rw[Bv]at hj;cases hj
    simp only[H.add,look,AQ,Ne.symm he',if_false]at hc'
    rw[Bb he']at hj'
    obtain⟨k,hk,_,hok⟩:=h.own id' c' hc'
    rw[hk]at hj';cases hj'
    have:=hok.lt
    omega
  ·by_cases he':id'=Z.next
   ·exfalso
    subst he'
    rw[Bv]at hj';cases hj'
    simp only[H.add,look,AQ,Ne.symm he,if_false]at hc
    rw[Bb he]at hj
    obtain⟨k,hk,_,hok⟩:=h.own id c hc
    rw[hk]at hj;cases hj
    have:=hok.lt
    omega
   ·simp only[H.add,look,AQ,Ne.symm he,Ne.symm he',if_false]at hc hc'
    rw[Bb he]at hj;rw[Bb he']at hj'
    exact h.inj id id' c c' j j' hc hc' hj hj' hbl
 ·intro id c hc
  obtain⟨j,hj,hno,hok⟩:=h.ext id c hc
  refine⟨j,hle _ _ hj,hno,hok.mono hle (hold _ ?_)⟩
  rcases Ad j.blk w.heap.size with hl|hl
  ·exact hl
  ·exact absurd (h.new _ (AN h.size hl)) hno
 ·intro g hg
  obtain⟨j,hj,hb⟩:=h.glob g hg
  exact⟨j,hle _ _ hj,hb⟩
 ·intro blk hno
  rw[<-h.fr blk hno]
  refine hold _ ?_
  rcases Ad blk w.heap.size with hl|hl
  ·exact hl
  ·exact absurd (h.new _ (AN h.size hl)) hno
 ·rw[hn.size];have:=h.size;omega
theorem DL.write {C:Cx} {R:Ren} {Z:H} {w w':World} (h:DL C R Z w) {id:Nat} {b c:Gv} {i:BI} (hb:look Z.bl id=some b) (hi:R id=some i)
  (hc:E4 R i c w') (hold:∀k,k≠i.blk->w'.heap[k]? = w.heap[k]?) (hsz:w'.heap.size=w.heap.size)
  (hos:w'.os=w.os) (htape:w'.tape=w.tape) (hout:w'.output=w.output):DL C R (Z.set id c) w':=by
 have hlook:∀k,look (Z.set id c).bl k=if id=k then(look Z.bl k).map (fun _=>c)else look Z.bl k:=fun k=>HJ Z.bl id k c
 have hOi:C.O i.blk:=by obtain⟨j,hj,hO,_⟩:=h.own id b hb;rw[hi]at hj;cases hj;exact hO
 refine⟨h.fresh,?_,?_,?_,h.glob,?_,?_,h.new,hos.trans h.os,htape.trans h.tape,hout.trans h.output⟩
 ·intro k d hd
  rw[hlook]at hd
  by_cases he:id=k
  ·subst he
   rw[if_pos rfl,hb]at hd;cases hd
   exact⟨i,hi,hOi,hc⟩
  ·rw[if_neg he]at hd
   obtain⟨j,hj,hO,hok⟩:=h.own k d hd
   refine⟨j,hj,hO,hok.mono (Le.refl _) (hold _ fun hbl=>he (h.inj id k b d i j hb hd hi hj hbl.symm))⟩
 ·intro k k' d d' j j' hd hd' hj hj' hbl
  rw[hlook]at hd hd'
  have hs:∀m e,(if id=m then(look Z.bl m).map (fun _=>c)else look Z.bl m)=some e->∃f,look Z.bl m=some f:=fun m e hm=>by
   by_cases he:id=m
   ·rw[if_pos he]at hm
    cases hl:look Z.bl m with
    | none=>rw[hl]at hm;cases hm
    | some f=>exact⟨f,rfl⟩
   ·rw[if_neg he]at hm;exact⟨e,hm⟩
  obtain⟨f,hf⟩:=hs k d hd
  obtain⟨f',hf'⟩:=hs k' d' hd'
  exact h.inj k k' f f' j j' hf hf' hj hj' hbl
 ·intro k d hd
  obtain⟨j,hj,hn,hok⟩:=h.ext k d hd
  exact⟨j,hj,hn,hok.mono (Le.refl _) (hold _ fun hbl=>hn (hbl ▸ hOi))⟩
 ·intro blk hn
  rw[<-h.fr blk hn]
  exact hold _ fun hbl=>hn (hbl ▸ hOi)
 ·rw[hsz];exact h.size
theorem DL.del {C:Cx} {R:Ren} {Z:H} {w:World} (h:DL C R Z w) (id:Nat):DL C R (Z.del id) w:=by
 have hlook:∀k,look (Z.del id).bl k=if id=k then none else look Z.bl k:=fun k=>MJ Z.bl id k
 have hs:∀k c,look (Z.del id).bl k=some c->look Z.bl k=some c:=fun k c hk=>by
  rw[hlook]at hk
  by_cases he:id=k
  ·rw[if_pos he]at hk;cases hk
  ·rwa [if_neg he]at hk
 exact⟨h.fresh,fun k c hk=>h.own k c (hs k c hk),fun k k' c c' i i' hk hk'=>h.inj k k' c c' i i' (hs k c hk) (hs k' c' hk'),h.ext,h.glob,h.fr,h.size,h.new,h.os,h.tape,h.output⟩
theorem DL.rename {C:Cx} {R:Ren} {Z:H} {w w':World} (h:DL C R Z w) {id:Nat} {b c:Gv} {i:BI} (hb:look Z.bl id=some b) (hi:R id=some i)
  (hc:E4 (Hl R Z.next i) i c w') (hold:∀k,k≠i.blk->w'.heap[k]? = w.heap[k]?) (hsz:w'.heap.size=w.heap.size)
  (hos:w'.os=w.os) (htape:w'.tape=w.tape) (hout:w'.output=w.output):DL C (Hl R Z.next i) ((Z.del id).add c) w':=by
 have hle:Le R (Hl R Z.next i):=(EM R Z.next i).le h.fresh
 have hOi:C.O i.blk:=by obtain⟨j,hj,hO,_⟩:=h.own id b hb;rw[hi]at hj;cases hj;exact hO
 have hlook:∀k,look (Z.del id).bl k=if id=k then none else look Z.bl k:=fun k=>MJ Z.bl id k
 have hs:∀k d,k≠Z.next->look ((Z.del id).add c).bl k=some d->id≠k/\look Z.bl k=some d:=fun k d hk hd=>by
  simp only[H.add,H.del,look,AQ,Ne.symm hk,if_false]at hd
  have hd':look (Z.del id).bl k=some d:=hd
  rw[hlook]at hd'
  by_cases he:id=k
  ·rw[if_pos he]at hd';cases hd'
  ·rw[if_neg he]at hd';exact⟨he,hd'⟩
 refine⟨?_,?_,?_,?_,?_,?_,?_,h.new,hos.trans h.os,htape.trans h.tape,hout.trans h.output⟩
 ·intro k hk
  have hk':Z.next+1<=k:=hk
  rw[Bb (by omega)];exact h.fresh k (by omega)
 ·intro k d hd
  by_cases he:k=Z.next
  ·subst he
   simp only[H.add,H.del,look,AQ,if_true,AK.injEq]at hd
   subst hd
   exact⟨i,Bv _ _ _,hOi,hc⟩
  ·obtain⟨hne,hd'⟩:=hs k d he hd
   obtain⟨j,hj,hO,hok⟩:=h.own k d hd'
   refine⟨j,hle _ _ hj,hO,hok.mono hle (hold _ fun hbl=>hne (h.inj id k b d i j hb hd' hi hj hbl.symm))⟩
 ·intro k k' d d' j j' hd hd' hj hj' hbl
  by_cases he:k=Z.next
  ·by_cases he':k'=Z.next
   ·rw[he,he']
   ·exfalso
    subst he
    rw[Bv]at hj;cases hj
    obtain⟨hne,hd2⟩:=hs k' d' he' hd'
    rw[Bb he']at hj'
    exact hne (h.inj id k' b d' _ j' hb hd2 hi hj' hbl)
  ·by_cases he':k'=Z.next
   ·exfalso
    subst he'
    rw[Bv]at hj';cases hj'
    obtain⟨hne,hd2⟩:=hs k d he hd
    rw[Bb he]at hj
    exact hne (h.inj id k b d _ j hb hd2 hi hj hbl.symm)
   ·obtain⟨_,hd2⟩:=hs k d he hd
    obtain⟨_,hd2'⟩:=hs k' d' he' hd'
    rw[Bb he]at hj;rw[Bb he']at hj'
    exact h.inj k k' d d' j j' hd2 hd2' hj hj' hbl
 ·intro k d hd
  obtain⟨j,hj,hn,hok⟩:=h.ext k d hd
  exact⟨j,hle _ _ hj,hn,hok.mono hle (hold _ fun hbl=>hn (hbl ▸ hOi))⟩
 ·intro g hg
  obtain⟨j,hj,hb⟩:=h.glob g hg
  exact⟨j,hle _ _ hj,hb⟩
 ·intro blk hn
  rw[<-h.fr blk hn]
  exact hold _ fun hbl=>hn (hbl ▸ hOi)
 ·rw[hsz];exact h.size
def rd (E:EB) (Z:H) (id:Nat):Option (List V):=
 match look Z.bl id with
 | some (.cells l)=>some l
 | some _=>none
 | none=>match look E id with
  | some (.cells l)=>some l
  | _=>none
theorem DL.read {C:Cx} {R:Ren} {Z:H} {w:World} (h:DL C R Z w) {id:Nat} {l:List V} (hl:rd C.E Z id=some l) :
  ∃i arr el fr,R id=some i/\w.heap[i.blk]? = some (.cells arr el fr)/\Hd R i.shift l arr:=by
 unfold rd at hl
 cases hb:look Z.bl id with
 | some b=>
  rw[hb]at hl
  obtain⟨i,hi,_,hok⟩:=h.own id b hb
  cases b with
  | cells m=>cases hl;obtain⟨arr,el,lo,hi',h1,h2,_⟩:=hok;exact⟨i,arr,el,_,hi,h1,h2⟩
  | map m=>cases hl
  | siter s p=>cases hl
  | unit t=>cases hl
 | none=>
  rw[hb]at hl
  cases he:look C.E id with
  | none=>rw[he]at hl;cases hl
  | some b=>
   rw[he]at hl
   obtain⟨i,hi,_,hok⟩:=h.ext id b he
   cases b with
   | cells m=>cases hl;obtain⟨arr,el,fr,h1,h2⟩:=hok;exact⟨i,arr,el,fr,hi,h1,h2⟩
   | map m=>cases hl
   | siter s p=>cases hl
   | unit t=>cases hl
inductive AO where
 | tmp (i:Nat)
 | con (v:V)
 deriving Inhabited
inductive FK where
 | int | bool | str
 deriving DecidableEq,Inhabited
inductive Fg where
 | bool | ptr | slice | map | func
 | iface (lit:Bool)
 | flat (l:List (Nat × FK))
 | none
 deriving DecidableEq,Inhabited
inductive ui where
 | toInt (k:IntKind)
 | same
 | toBytes (el:TypeId)
 | toStr
 | bad
 deriving DecidableEq,Inhabited
inductive EK where
 | mov (x:AO)
 | pick (c a b:AO)
 | alloc (el:TypeId) (z:List V)
 | box (el:TypeId) (x:AO)
 | build (z:List V) (JY:List (Nat × Nat × AO))
 | buildSlice (el:TypeId) (n:Nat) (z:List V) (JY:List (Nat × Nat × AO))
 | load (n:Option Nat) (x:AO)
 | store (n:Nat) (x v:AO)
 | nilck (x:AO)
 | bin (op:BinOp) (t:Fg) (x y:AO)
 | un (op:UnOp) (x:AO)
 | conv (t:ui) (x:AO)
 | mkifc (t:TypeId) (x:AO)
 | mkfn (f:FuncId) (first captured:List AO)
 | mkslice (el:TypeId) (esz bytes:Nat) (z:List V) (len cap:AO)
 | sliceStr (x:AO) (lo hi:Option AO)
 | sliceSl (esz:Nat) (x:AO) (lo hi mx:Option AO)
 | sliceArr (n esz:Nat) (x:AO) (lo hi mx:Option AO)
 | faddr (off:Nat) (x:AO)
 | field (off:Nat) (n:Option Nat) (x:AO)
 | iaddrS (esz:Nat) (x i:AO)
 | iaddrA (n esz:Nat) (x i:AO)
 | idxStr (x i:AO)
 | extract (i:Nat) (x:AO)
 | len (str:Bool) (x:AO)
 | lenC (n:Nat)
 | cap (x:AO)
 | append (el:TypeId) (esz bytes:Nat) (s x:AO)
 | copy (esz:Nat) (d s:AO)
 | min (x:AO) (l:List AO)
 | max (x:AO) (l:List AO)
 | call (f:FuncId) (args:List AO)
 | callv (f:AO) (args:List AO)
 | mkmap
 | lookup (t:Fg) (z:V) (m x:AO)
 | mapset (t:Fg) (m k v:AO)
 | alloc0 (el:TypeId)
 | box0 (el:TypeId) (x:AO)
 | load0 (x:AO)
 | store0 (x v:AO)
 | faddr0 (t:TypeId) (x:AO)
 | idxArr (n esz:Nat) (s:Option Nat) (x i:AO)
 | bad
 deriving Inhabited
structure BR where
 dst:Option Nat
 op:EK
 guard:Option (Nat × Bool)
 deriving Inhabited
structure DP where
 anc:Nat
 looks:List Nat
 deriving Inhabited
inductive AC where
 | skip
 | region (ops:List BR)
 | draw (ops:List BR) (plan:List DP)
 | seq (a b:AC)
 | cond (c:AO) (a b:AC)
 | block (id:Nat) (c:AC)
 | loop (c:AC)
 | exit (id:Nat)
 | ret
 | keep (ts:List Nat) (c:AC)
 | bad
 deriving Inhabited
inductive AR where
 | tmp (t:Nat)
 | cell (t:Nat) (n:Option Nat)
 deriving Inhabited
structure Wv where
 ntmps:Nat
 results:List AR
 frees:List Nat
 body:AC
 deriving Inhabited
abbrev Bt:=List (Nat × V)
def GQ (e:Bt) (t:Nat):V:=
 match look e t with
 | some v=>v
 | none => .dead
def CV (e:Bt):AO->V
 | .tmp i=>GQ e i
 | .con v=>v
def Fe (e:Bt) (l:List AO):List V:=l.map (CV e)
def DR (e:Bt):Option AO->Option V
 | some x=>some (CV e x)
 | none=>none
def V.live:V->Bool
 | .dead=>false
 | _=>true
def F0:List V->Nat->List V->List V
 | l,_,[]=>l
 | [],_,_::_=>[]
 | _::l,0,c::cs=>c::F0 l 0 cs
 | a::l,n+1,c::cs=>a::F0 l n (c::cs)
def Hq:List (Nat × Nat × V)->List V->Option (List V)
 | [],z=>some z
 | (off,size,v)::r,z=>
  if v.live&&Ag v.cells.length size&&Ab (off+size) z.length then Hq r (F0 z off v.cells)else none
def JY (e:Bt) (l:List (Nat × Nat × AO)):List (Nat × Nat × V):=l.map fun(o,s,x)=>(o,s,CV e x)
def BJ:List V->Bool
 | []=>true
 | v::l=>v.one&&BJ l
def RG (op:BinOp) (a b:Int):Option Bool:=
 match op with
 | .eql=>some (a==b)
 | .neq=>some (a != b)
 | .lss=>some (decide (a<b))
 | .leq=>some (decide (a<=b))
 | .gtr=>some (decide (a > b))
 | .geq=>some (decide (a ≥ b))
 | _=>none
def U2 (op:BinOp) (k:IntKind) (a b:Int):Option Int:=
 match op with
 | .add=>some (k.wrap (a+b))
 | .sub=>some (k.wrap (a-b))
 | .mul=>some (k.wrap (a*b))
 | .quo=>if b=0 then none else some (k.wrap (a.tdiv b))
 | .rem=>if b=0 then none else some (a.tmod b)
 | .and=>some (k.wrap (BL k.bits a &&& BL k.bits b).toNat)
 | .or=>some (k.wrap (BL k.bits a ||| BL k.bits b).toNat)
 | .xor=>some (k.wrap (BL k.bits a ^^^ BL k.bits b).toNat)
 | .andNot=>some (k.wrap (BL k.bits a &&& ~~~BL k.bits b).toNat)
 | _=>none
def Nn (op:BinOp) (k:IntKind) (a b:Int):Option Int:=
 if b<0 then none else
 match op with
 | .shl=>some (k.wrap (a*2 ^ (Fz b.toNat k.bits)))
 | .shr=>some (a.fdiv (2 ^ (Fz b.toNat k.bits)))
 | _=>none
def XZ (op:BinOp) (a b:BS):Option V:=
 match op with
 | .add=>match Ab (AU a.len b.len) 1000000000000 with
  | true=>some (.str (a.cat b))
  | false=>none
 | .eql=>some (.bool (a.beq b))
 | .neq=>some (.bool (not (a.beq b)))
 | .lss=>some (.bool (Op.bytesLess a.toList b.toList))
 | .leq=>some (.bool (Op.bytesLess a.toList b.toList || a.beq b))
 | .gtr=>some (.bool (not (Op.bytesLess a.toList b.toList || a.beq b)))
 | .geq=>some (.bool (not (Op.bytesLess a.toList b.toList)))
 | _=>none
def D0 (a b:Int):Bool:=match a,b with
 | .ofNat m,.ofNat n=>Ag m n
 | .negSucc m,.negSucc n=>Ag m n
 | _,_=>false
theorem Tt (a b:Int):D0 a b=(a==b):=by
 cases a<;>cases b<;>simp only[D0]<;>(rw[NR];simp[AQ])<;>omega
def Ky:FK->V->V->Option Bool
 | .int,.int k a,.int k' b=>if k=k' then some (D0 a b)else none
 | .bool,.bool a,.bool b=>some (a==b)
 | .str,.str a,.str b=>some (a.beq b)
 | _,_,_=>none
def Iu:List V->Nat->V
 | [],_ => .dead
 | v::_,0=>v
 | _::l,n+1=>Iu l n
def Gz:List (Nat × FK)->List V->List V->Option Bool
 | [],_,_=>some true
 | (o,k)::r,xs,ys=>match Ky k (Iu xs o) (Iu ys o)with
  | some a=>match Gz r xs ys with
   | some b=>some (a&&b)
   | none=>none
  | none=>none
def nT:Fg->V->V->Option Bool
 | .flat l,.agg xs,.agg ys=>Gz l xs ys
 | _,_,_=>none
def P0 (t:Fg) (x:V):Bool:=match nT t x x with
 | some _=>true
 | none=>false
def P6 (t:Fg) (k:V):List (V × V)->Option (Option V)
 | []=>some none
 | (q,v)::l=>match nT t k q with
  | some true=>some (some v)
  | some false=>P6 t k l
  | none=>none
def KL:Fg->V->V->Option Bool
 | .flat l,.agg xs,.agg ys=>Gz l xs ys
 | .bool,.bool a,.bool b=>some (a==b)
 | .ptr,.nilp,.nilp=>some true
 | .ptr,.nilp,.ptr _ _=>some false
 | .ptr,.ptr _ _,.nilp=>some false
 | .slice,.nils,.nils=>some true
 | .slice,.nils,.sl _ _ _ _=>some false
 | .slice,.sl _ _ _ _,.nils=>some false
 | .slice,.nils,.sle _ _ _ _=>some false
 | .slice,.sle _ _ _ _,.nils=>some false
 | .map,.nilm,.nilm=>some true
 | .map,.nilm,.mp _=>some false
 | .map,.mp _,.nilm=>some false
 | .func,.nilf,.nilf=>some true
 | .func,.nilf,.fn _ _ _=>some false
 | .func,.fn _ _ _,.nilf=>some false
 | .iface true,.nili,.nili=>some true
 | .iface _,.nili,.ifc _ _=>some false
 | .iface _,.ifc _ _,.nili=>some false
 | _,_,_=>none
def Ib (op:BinOp) (t:Fg) (x y:V):Option V:=
 match x,y with
 | .int k a,.int k' b=>
  match op with
  | .shl | .shr=>(Nn op k a b).map (.int k)
  | .add | .sub | .mul | .quo | .rem | .and | .or | .xor | .andNot=>if k=k' then(U2 op k a b).map (.int k)else none
  | _=>if k=k' then(RG op a b).map .bool else none
 | .str a,.str b=>XZ op a b
 | x,y=>
  match op with
  | .eql=>(KL t x y).map .bool
  | .neq=>(KL t x y).map fun b => .bool !b
  | _=>none
def wB (op:UnOp) (x:V):Option V:=
 match op,x with
 | .neg,.int k n=>some (.int k (k.wrap (0-n)))
 | .xor,.int k n=>some (.int k (k.wrap (BL k.bits (if k.signed then -1 else k.max) ^^^ BL k.bits n).toNat))
 | .not,.bool b=>some (.bool !b)
 | _,_=>none
def PS (l:List UInt8):List V:=l.map fun b => .int .u8 b.toNat
def FN:List V->Option (List UInt8)
 | []=>some []
 | .int .u8 n::l=>(FN l).map (UInt8.ofNat n.toNat::·)
 | _=>none
def PM (E:EB) (Z:H) (b off n:Nat):Option (List V):=
 match rd E Z b with
 | some l=>if Ab (off+n) l.length then some ((l.drop off).take n)else none
 | none=>none
def V.isStr:V->Bool
 | .str _=>true
 | _=>false
def CY (E:EB) (Z:H) (esz:Nat):V->Option (Nat × List V)
 | .nils=>some (0,[])
 | .sle _ _ _ _=>some (0,[])
 | .sl b off len _=>(PM E Z b off (len*esz)).map fun l=>(len,l)
 | .str l=>if esz=1 then some (l.len,PS l.toList)else none
 | _=>none
def Cn (need bytes:Nat):Bool:=Ab (need*bytes) 140737488355328&&Ab need 9223372036854775807
def D7 (E:EB) (esz bytes:Nat) (s x:V) (Z:H):Option (V × H):=
 match CY E Z esz x with
 | none=>none
 | some (n,new)=>
  match s with
  | .nils=>
   if n=0 then some (.nils,Z)
   else if Cn n bytes then some (.sl Z.next 0 n (.op esz),Z.add (.cells new))else none
  | .sl b off len (.ex c)=>
   if Ab (len+n) c then
    if n=0 then some (s,Z)else
    match look Z.bl b with
    | some (.cells l)=>if Ab (off+(len+n)*esz) l.length&&BJ new then some (.sl b off (len+n) (.ex c),Z.set b (.cells (F0 l (off+len*esz) new)))else none
    | _=>none
   else if Cn (len+n) bytes then
    match PM E Z b off (len*esz)with
    | some old=>some (.sl Z.next 0 (len+n) (.op esz),Z.add (.cells (old++new)))
    | none=>none
   else none
  | .sl b 0 len (.op e)=>
   if n=0 then some (s,Z)else
   match look Z.bl b with
   | some (.cells l)=>
    if Ag l.length (len*esz)&&Ag e esz&&Cn (len+n) bytes&&BJ new then some (.sl Z.next 0 (len+n) (.op esz),(Z.del b).add (.cells (l++new)))else none
   | _=>none
  | .sl _ _ _ (.op _)=>if n=0 then some (s,Z)else none
  | _=>none
def Hk:Option V->Nat->Option Nat
 | none,d=>some d
 | some (.int _ n),_=>if 0<=n then some n.toNat else none
 | _,_=>none
def DA (esz:Nat) (x:V) (lo hi mx:Option V):Option V:=
 match x with
 | .nils=>
  match Hk mx 0 with
  | none=>none
  | some m=>match Hk hi 0 with
   | none=>none
   | some h=>match Hk lo 0 with
    | none=>none
    | some l=>if Ab l h&&Ab h m&&Ag m 0 then some .nils else none
 | .sl b off len (.ex c)=>
  match Hk mx c with
  | none=>none
  | some m=>match Hk hi len with
   | none=>none
   | some h=>match Hk lo 0 with
    | none=>none
    | some l=>if Ab l h&&Ab h m&&(mx.isNone || Ab m c)then some (.sl b (if Ag m l then off else off+l*esz) (h-l) (.ex (m-l)))else none
 | .sl b off len (.op e)=>
  match Hk hi len with
  | none=>none
  | some h=>match Hk lo 0 with
   | none=>none
   | some l=>
    match mx with
    | none=>
     if Ab l h&&Ab h len&&Ag e esz then
      if Ag l len then(if Ag l 0 then some x else some (.sle b off l e))else some (.sl b (off+l*esz) (h-l) (.op e))
     else none
    | some v=>match Hk (some v) 0 with
     | none=>none
     | some m=>if Ab l h&&Ab h m&&Ab m len then some (.sl b (if Ag m l then off else off+l*esz) (h-l) (.ex (m-l)))else none
 | .sle _ _ _ _=>
  match Hk hi 0 with
  | none=>none
  | some h=>match Hk lo 0 with
   | none=>none
   | some l=>match mx with
    | none=>if Ag h 0&&Ag l 0 then some x else none
    | some _=>none
 | _=>none
def IN (n esz:Nat) (x:V) (lo hi mx:Option V):Option V:=
 match x with
 | .ptr b off=>
  match Hk mx n with
  | none=>none
  | some m=>match Hk hi n with
   | none=>none
   | some h=>match Hk lo 0 with
    | none=>none
    | some l=>if Ab l h&&Ab h m&&Ab m n then some (.sl b (if Ag m l then off else off+l*esz) (h-l) (.ex (m-l)))else none
 | _=>none
def IM (x:V) (lo hi:Option V):Option V:=
 match x with
 | .str s=>
  match Hk hi s.len with
  | none=>none
  | some h=>match Hk lo 0 with
   | none=>none
   | some l=>if Ab l h&&Ab h s.len then some (.str (s.sub l h))else none
 | _=>none
def SI:V->List V->Option V
 | x,[]=>some x
 | .int k a,.int k' b::l=>if k=k' then SI (.int k (if b<a then b else a)) l else none
 | _,_::_=>none
def SJ:V->List V->Option V
 | x,[]=>some x
 | .int k a,.int k' b::l=>if k=k' then SJ (.int k (if b > a then b else a)) l else none
 | _,_::_=>none
def Kw (l:List V) (off:Nat):Option Nat->Option V
 | none=>l[off]?
 | some n=>if Ab (off+n) l.length then some (.agg ((l.drop off).take n))else none
def BU (o:EK) (e:Bt):Option V:=
 match o with
 | .mov x=>let v:=CV e x;if v.live then some v else none
 | .pick c a b=>
  match CV e c with
  | .bool true=>let v:=CV e a;if v.live then some v else none
  | .bool false=>let v:=CV e b;if v.live then some v else none
  | _=>none
 | .build z ps=>match Hq (JY e ps) z with
  | some l=>some (.agg l)
  | none=>none
 | .nilck x=>match CV e x with
  | .ptr b off=>some (.ptr b off)
  | _=>none
 | .bin op t x y=>Ib op t (CV e x) (CV e y)
 | .un op x=>wB op (CV e x)
 | .conv (.toInt k) x=>match CV e x with
  | .int _ n=>some (.int k (k.wrap n))
  | _=>none
 | .conv .same x=>match CV e x with
  | .str l=>some (.str l)
  | _=>none
 | .mkifc t x=>let v:=CV e x;if v.live then some (.ifc t v)else none
 | .mkfn f a c=>if(Fe e a).all V.live&&(Fe e c).all V.live then some (.fn f (Fe e a) (Fe e c))else none
 | .sliceStr x lo hi=>IM (CV e x) (DR e lo) (DR e hi)
 | .sliceSl esz x lo hi mx=>DA esz (CV e x) (DR e lo) (DR e hi) (DR e mx)
 | .sliceArr n esz x lo hi mx=>IN n esz (CV e x) (DR e lo) (DR e hi) (DR e mx)
 | .faddr off x=>match CV e x with
  | .ptr b o=>some (.ptr b (o+off))
  | _=>none
 | .field off none x=>match CV e x with
  | .agg l=>l[off]?
  | _=>none
 | .field off (some n) x=>match CV e x with
  | .agg l=>if Ab (off+n) l.length then some (.agg ((l.drop off).take n))else none
  | _=>none
 | .iaddrS esz x i=>match CV e x,CV e i with
  | .sl b off len _,.int _ n=>if 0<=n/\n<len then some (.ptr b (off+n.toNat*esz))else none
  | _,_=>none
 | .iaddrA len esz x i=>match CV e x,CV e i with
  | .ptr b off,.int _ n=>if 0<=n/\n<len then some (.ptr b (off+n.toNat*esz))else none
  | _,_=>none
 | .idxStr x i=>match CV e x,CV e i with
  | .str s,.int _ n=>if 0<=n then(if Cf n.toNat s.len then some (.int .u8 (s.get n.toNat))else none)else none
  | _,_=>none
 | .extract i x=>match CV e x with
  | .tup l=>l[i]?
  | _=>none
 | .load0 x=>match CV e x with
  | .ptr _ _=>some (.agg [])
  | _=>none
 | .idxArr len esz s x i=>match CV e x,CV e i with
  | .agg l,.int _ n=>if 0<=n/\n<len then Kw l (n.toNat*esz) s else none
  | _,_=>none
 | .len true x=>match CV e x with
  | .str s=>some (.int .i64 s.len)
  | _=>none
 | .len false x=>match CV e x with
  | .nils=>some (.int .i64 0)
  | .sl _ _ n _=>some (.int .i64 n)
  | .sle _ _ _ _=>some (.int .i64 0)
  | _=>none
 | .lenC n=>some (.int .i64 n)
 | .cap x=>match CV e x with
  | .nils=>some (.int .i64 0)
  | .sl _ _ _ (.ex c)=>some (.int .i64 c)
  | _=>none
 | .min x l=>match SI (CV e x) (Fe e l)with
  | some (.int k n)=>some (.int k n)
  | _=>none
 | .max x l=>match SJ (CV e x) (Fe e l)with
  | some (.int k n)=>some (.int k n)
  | _=>none
 | _=>none
def LZ (t:Fg) (z m x:V) (Z:H):Option V:=match m with
 | .mp b=>match look Z.bl b with
  | some (.map l)=>if P0 t x then(match P6 t x l with
   | some (some v)=>some (.tup [v,.bool true])
   | some none=>if z.live then some (.tup [z,.bool false])else none
   | none=>none)else none
  | _=>none
 | _=>none
def Q9 (t:Fg) (m k v:V) (Z:H):Option (V × H):=match m with
 | .mp b=>match look Z.bl b with
  | some (.map l)=>if P0 t k&&v.live then(match P6 t k l with
   | some none=>some (.dead,Z.set b (.map (l++[(k,v)])))
   | _=>none)else none
  | _=>none
 | _=>none
def NK (t:TypeId) (x:V) (Z:H):Option V:=match x with
 | .ptr b 0=>match look Z.bl b with
  | some (.unit t')=>if Ag t t' then some (.ptr b 0)else none
  | _=>none
 | _=>none
def CU (E:EB) (o:EK) (e:Bt) (Z:H):Option V:=
 match o with
 | .load none x=>match CV e x with
  | .ptr b off=>match rd E Z b with
   | some l=>l[off]?
   | none=>none
  | _=>none
 | .load (some n) x=>match CV e x with
  | .ptr b off=>match PM E Z b off n with
   | some l=>some (.agg l)
   | none=>none
  | _=>none
 | .conv .toStr x=>if(CV e x).isStr then none else match CY E Z 1 (CV e x)with
  | some (_,l)=>match FN l with
   | some s=>some (.str (BS.ofList s))
   | none=>none
  | none=>none
 | .lookup t z m x=>LZ t z (CV e m) (CV e x) Z
 | .faddr0 t x=>NK t (CV e x) Z
 | _=>none
def CX (o:EK) (e:Bt) (next:Nat):Option (V × Gv):=
 match o with
 | .alloc _ z=>some (.ptr next 0,.cells z)
 | .box _ x=>let v:=CV e x;if v.live&&BJ v.cells then some (.ptr next 0,.cells v.cells)else none
 | .buildSlice _ n z ps=>match Hq (JY e ps) z with
  | some l=>if BJ l then some (.sl next 0 n (.ex n),.cells l)else none
  | none=>none
 | .conv (.toBytes _) x=>match CV e x with
  | .str l=>if Ab l.len 1000000000000 then some (.sl next 0 l.len (.op 1),.cells (PS l.toList))else none
  | _=>none
 | .mkslice _ _ bytes z len cap=>match CV e len,CV e cap with
  | .int .i64 n,.int .i64 c=>
   if 0<=n/\n<=c/\c*bytes<=281474976710656/\c<=1000000000000 then some (.sl next 0 n.toNat (.ex c.toNat),.cells (BT c.toNat z).flatten)else none
  | _,_=>none
 | .mkmap=>some (.mp next,.map [])
 | .alloc0 el=>some (.ptr next 0,.unit el)
 | .box0 el x=>match CV e x with
  | .agg []=>some (.ptr next 0,.unit el)
  | _=>none
 | _=>none
def Ef (E:EB) (o:EK) (e:Bt) (Z:H):Option (V × H):=
 match o with
 | .store n x v=>match CV e x with
  | .ptr b off=>
   let cs:=(CV e v).cells
   match look Z.bl b with
   | some (.cells l)=>if Ag cs.length n&&Ab (off+n) l.length&&BJ cs then some (.dead,Z.set b (.cells (F0 l off cs)))else none
   | _=>none
  | _=>none
 | .append _ esz bytes s x=>D7 E esz bytes (CV e s) (CV e x) Z
 | .copy esz d s=>match CV e d,CY E Z esz (CV e s)with
  | .nils,some (_,_)=>some (.int .i64 0,Z)
  | .sle _ _ _ _,some (_,_)=>some (.int .i64 0,Z)
  | .sl b off len _,some (n,src)=>
   let m:=Fz n len
   if m=0 then some (.int .i64 0,Z)else
   match look Z.bl b with
   | some (.cells l)=>if Ab (off+m*esz) l.length&&BJ (src.take (m*esz))then some (.int .i64 m,Z.set b (.cells (F0 l off (src.take (m*esz)))))else none
   | _=>none
  | _,_=>none
 | .mapset t m k v=>Q9 t (CV e m) (CV e k) (CV e v) Z
 | .store0 x v=>match CV e x,CV e v with
  | .ptr _ _,.agg []=>some (.dead,Z)
  | _,_=>none
 | _=>none
inductive Cls where
 | p | l | a | k
 deriving DecidableEq,Inhabited
def EK.cls:EK->Cls
 | .load _ _ | .conv .toStr _ | .lookup _ _ _ _ | .faddr0 _ _ => .l
 | .alloc _ _ | .box _ _ | .buildSlice _ _ _ _ | .conv (.toBytes _) _ | .mkslice _ _ _ _ _ _ | .mkmap | .alloc0 _ | .box0 _ _ => .a
 | .store _ _ _ | .append _ _ _ _ _ | .copy _ _ _ | .call _ _ | .callv _ _ | .mapset _ _ _ _ | .store0 _ _ => .k
 | _ => .p
def bA (E:EB) (o:EK) (e:Bt) (Z:H):Option (V × H):=
 match o.cls with
 | .p=>match BU o e with
  | some v=>some (v,Z)
  | none=>none
 | .l=>match CU E o e Z with
  | some v=>some (v,Z)
  | none=>none
 | .a=>match CX o e Z.next with
  | some (v,b)=>some (v,Z.add b)
  | none=>none
 | .k=>Ef E o e Z
abbrev BB:=FuncId->List V->H->Option (V × H)
def Cb (e:Bt):Option Nat->V->Bt
 | some d,v=>(d,v)::e
 | none,_=>e
def EO (E:EB) (D:BB) (o:EK) (e:Bt) (Z:H):Option (V × H):=
 match o with
 | .call f args=>if(Fe e args).all V.live then D f (Fe e args) Z else none
 | .callv f args=>match CV e f with
  | .fn g first cap=>if(Fe e args).all V.live then D g (first++Fe e args++cap) Z else none
  | _=>none
 | o=>bA E o e Z
def Dn:V := .tup []
def BZ (e:Bt):Option (Nat × Bool)->Option Bool
 | none=>some true
 | some (t,b)=>match GQ e t with
  | .bool c=>some (c==b)
  | .tup []=>some false
  | _=>none
def K0 (E:EB) (D:BB):List BR->Bt->H->Option (Bt × H)
 | [],e,Z=>some (e,Z)
 | o::r,e,Z=>
  match BZ e o.guard with
  | none=>none
  | some false=>K0 E D r (Cb e o.dst Dn) Z
  | some true=>match EO E D o.op e Z with
   | none=>none
   | some (v,Z')=>K0 E D r (Cb e o.dst v) Z'
def Bd:List Nat->Nat->Bool
 | [],_=>false
 | a::l,k=>Ag a k || Bd l k
def restr:List Nat->Bt->Bt
 | [],_=>[]
 | t::l,e=>match look e t with
  | some v=>(t,v)::restr l e
  | none=>restr l e
def Cy (n0 n:Nat) (p:Nat->Bool):EB->EB
 | []=>[]
 | (id,b)::l=>if Ab n0 id&&Cf id (n0+n) && !p (id-n0)then Cy n0 n p l else(id,b)::Cy n0 n p l
def E2 (n0 n:Nat) (p:Nat->Bool):EB->EB
 | []=>[]
 | (id,b)::l=>if Ab n0 id&&Cf id (n0+n) && !p (id-n0)then(id,b)::E2 n0 n p l else E2 n0 n p l
structure DS where
 e:Bt
 nx:Nat
 ss:List (EB)
 ks:List Nat
 am:Nat
 ls:List (Nat × EK × Bt × V)
def Dj (anc am:Nat) (k:Nat):Bool:=anc.testBit k&&am.testBit k
def Dd (E:EB) (D:BB) (n0 n i:Nat) (o:BR) (p:DP) (s:DS):Option DS:=
 match BZ (restr p.looks s.e) o.guard with
 | none=>none
 | some false=>some { s with e:=Cb s.e o.dst Dn }
 | some true=>
  match o.op.cls with
  | .p=>match BU o.op (restr p.looks s.e)with
   | none=>none
   | some v=>some { s with e:=Cb s.e o.dst v }
  | .l=>match s.ss with
   | []=>none
   | h::_=>match CU E o.op (restr p.looks s.e) ⟨s.nx,Cy n0 n (Dj p.anc s.am) h⟩with
    | none=>none
    | some v=>some { s with e:=Cb s.e o.dst v,ls:=(i,o.op,restr p.looks s.e,v)::s.ls }
  | .a=>match CX o.op (restr p.looks s.e) (n0+i)with
   | none=>none
   | some (v,b)=>some { s with e:=Cb s.e o.dst v,ss:=s.ss.map ((n0+i,b)::·),am:=s.am ||| 2 ^ i }
  | .k=>match s.ss with
   | []=>none
   | h::_=>match EO E D o.op (restr p.looks s.e) ⟨s.nx,Cy n0 n (Dj p.anc s.am) h⟩with
    | none=>none
    | some (v,Z')=>some { s with e:=Cb s.e o.dst v,nx:=Z'.next,ss:=(E2 n0 n (Dj p.anc s.am) h++Z'.bl)::s.ss,ks:=i::s.ks }
def B6 (E:EB) (D:BB) (n0 n:Nat):Nat->List BR->List DP->DS->Option DS
 | _,[],_,s=>some s
 | i,o::l,p::pl,s=>match Dd E D n0 n i o p s with
  | none=>none
  | some s'=>B6 E D n0 n (i+1) l pl s'
 | _,_::_,[],_=>none
mutual
def V.beq:V->V->Bool
 | .bool a,.bool b=>a==b
 | .int k a,.int l b=>decide (k=l)&&a==b
 | .str a,.str b=>decide (a=b)
 | .nilp,.nilp=>true
 | .ptr a b,.ptr c d=>Ag a c&&Ag b d
 | .nils,.nils=>true
 | .sl a b c x,.sl d e f y=>Ag a d&&Ag b e&&Ag c f&&decide (x=y)
 | .sle a b c x,.sle d e f y=>Ag a d&&Ag b e&&Ag c f&&Ag x y
 | .nilm,.nilm=>true
 | .mp a,.mp b=>Ag a b
 | .fn f a b,.fn g c d=>Ag f g&&M3 a c&&M3 b d
 | .nilf,.nilf=>true
 | .ifc t v,.ifc u x=>Ag t u&&V.beq v x
 | .nili,.nili=>true
 | .agg l,.agg m=>M3 l m
 | .tup l,.tup m=>M3 l m
 | _,_=>false
def M3:List V->List V->Bool
 | [],[]=>true
 | a::l,b::m=>V.beq a b&&M3 l m
 | _,_=>false
end
def I2 (pl:List DP) (j:Nat) (ks more:List Nat):Bool:=
 more.all (fun k=>!((pl.getD j ⟨0,[]⟩).anc.testBit k))&&ks.all (fun k=>!((pl.getD k ⟨0,[]⟩).anc.testBit j))
def E9 (E:EB) (n0 n:Nat) (pl:List DP) (am:Nat) (j:Nat) (op:EK) (em:Bt) (v:V):List (EB)->List Nat->List Nat->Bool
 | [],_,_=>true
 | h::ss,ks,more=>
  (!I2 pl j ks more || (match CU E op em ⟨0,Cy n0 n (Dj (pl.getD j ⟨0,[]⟩).anc am) h⟩with
   | some u=>V.beq u v
   | none=>false)) &&
  (match ks with
   | []=>true
   | k::ks'=>E9 E n0 n pl am j op em v ss ks' (k::more))
def A2 (E:EB) (D:BB) (ops:List BR) (pl:List DP) (e:Bt) (Z:H):Option (Bt × H):=
 match B6 E D Z.next ops.length 0 ops pl ⟨e,Z.next+ops.length,[Z.bl],[],0,[]⟩with
 | none=>none
 | some s=>
  if s.ls.all (fun(j,op,em,v)=>E9 E Z.next ops.length pl s.am j op em v s.ss s.ks [])then
   match s.ss with
   | h::_=>some (s.e,⟨s.nx,Cy Z.next ops.length (fun k=>s.am.testBit k) h⟩)
   | []=>none
  else none
def Ej:Value->V
 | .bool b => .bool b
 | .int k n => .int k n
 | .string s => .str (BS.ofList s.data.toList)
 | .pointer none => .nilp
 | .slice none 0 0 => .nils
 | .map none => .nilm
 | .nilFunc => .nilf
 | .nilIface => .nili
 | _ => .dead
def Wh:Value->V
 | .agg cs=>if(cs.toList.map Ej).all V.live then .agg (cs.toList.map Ej)else .dead
 | v=>Ej v
def ZE (v:Value):Option (List V):=if(v.cells.toList.map Ej).all V.live then some (v.cells.toList.map Ej)else none
def Ak (G:Nat->Bool):Operand->AO
 | .tmp t => .tmp t
 | .const v => .con (Wh v)
 | .global g=>if G g then .con (.ptr g 0)else .con .dead
 | .func f => .con (.fn f [] [])
def GW (P:Program) (t:TypeId):Option (Option Nat):=
 match P.underlying t,P.info? t with
 | some (.struct _),some i=>some (some i.size)
 | some (.array _ _),some i=>some (some i.size)
 | some _,some _=>some none
 | _,_=>none
def GF (P:Program) (t:TypeId):Option Nat:=(P.info? t).map (·.size)
def JL (P:Program) (t:TypeId):Option (List V):=
 match P.info? t with
 | some i=>match i.zero with
  | some z=>ZE z
  | none=>none
 | none=>none
def Lc:Operand->Bool
 | .const _=>true
 | _=>false
def Gy (P:Program):List Field->Option (List (Nat × FK))
 | []=>some []
 | f::fs=>match f.name == "_",Gy P fs with
  | true,r=>r
  | false,some r=>match P.underlying f.type with
   | some (.int _)=>some ((f.offset,.int)::r)
   | some .bool=>some ((f.offset,.bool)::r)
   | some .string=>some ((f.offset,.str)::r)
   | _=>none
  | false,none=>none
def FI (P:Program) (t:TypeId) (fs:List Field):Fg:=
 match P.stoodInHeld t || P.eqGuardType P.depth t,Gy P fs with
 | false,some l => .flat l
 | _,_ => .none
def PR (P:Program) (t:TypeId):Fg:=
 match P.underlying t with
 | some (.struct fs)=>FI P t fs.toList
 | _ => .none
def NS (P:Program) (t:TypeId):V:=
 match P.info? t with
 | some i=>match i.zero with
  | some z=>Wh z
  | none => .dead
 | none => .dead
def WH (P:Program) (op:BinOp) (t:TypeId) (x y:Operand):Fg:=
 match op with
 | .eql | .neq=>
  match P.underlying t with
  | some .bool => .bool
  | some (.struct fs)=>FI P t fs.toList
  | some (.pointer _) => .ptr
  | some (.slice _) => .slice
  | some (.map _ _) => .map
  | some (.func _ _ _) => .func
  | some (.interface _) => .iface (Lc x || Lc y)
  | _ => .none
 | _ => .none
def cm (P:Program) (s d:TypeId):ui:=
 match P.underlying s,P.underlying d with
 | some _,some (.int k) => .toInt k
 | some .string,some .string => .same
 | some .string,some (.slice e)=>match P.underlying e with
  | some (.int .u8) => .toBytes e
  | _ => .bad
 | some (.slice e),some .string=>match P.underlying e with
  | some (.int .u8) => .toStr
  | _ => .bad
 | _,_ => .bad
def Hb (P:Program) (f:FuncId):Bool:=
 match P.funcs[f]? with
 | some fn=>fn.name != "runtime.NumGoroutine" && fn.body.isSome
 | none=>false
def qE:TypeDesc->Bool
 | .string=>true
 | .slice _=>true
 | _=>false
def KM (P:Program) (G:Nat->Bool) (b:Builtin) (ts:Array TypeId) (args:Array Operand):EK:=
 match b,ts.toList,args.toList with
 | .len,[t],[x]=>match P.underlying t with
  | some .string => .len true (Ak G x)
  | some (.slice _) => .len false (Ak G x)
  | some (.array n _) => .lenC n
  | some (.pointer a)=>match P.underlying a with
   | some (.array n _) => .lenC n
   | _ => .bad
  | _ => .bad
 | .cap,[t],[x]=>match P.underlying t with
  | some (.slice _) => .cap (Ak G x)
  | _ => .bad
 | .append,[t,u],[s,x]=>match P.underlying t,P.underlying u with
  | some (.slice e),some du=>match P.info? e with
   | some i=>match i.zero with
    | some z=>if !(qE du) || i.size==0 || z.cells.size != i.size then .bad else .append e i.size i.bytes (Ak G s) (Ak G x)
    | none => .bad
   | none => .bad
  | _,_ => .bad
 | .copy,[t,u],[d,s]=>match P.underlying t,P.underlying u with
  | some (.slice e),some _=>match P.info? e with
   | some i => .copy i.size (Ak G d) (Ak G s)
   | none => .bad
  | _,_ => .bad
 | .min,_,x::l => .min (Ak G x) (l.map (Ak G))
 | .max,_,x::l => .max (Ak G x) (l.map (Ak G))
 | _,_,_ => .bad
def Kl (P:Program):List Field->Option (List (Nat × Nat))
 | []=>some []
 | f::l=>match P.info? f.type,Kl P l with
  | some i,some r=>some ((f.offset,i.size)::r)
  | _,_=>none
def EG (G:Nat->Bool) (place:Nat->Option (Nat × Nat)):List (Nat × Operand)->Option (List (Nat × Nat × AO))
 | []=>some []
 | (i,x)::l=>match place i,EG G place l with
  | some (o,s),some r=>some ((o,s,Ak G x)::r)
  | _,_=>none
def Ac (P:Program) (G:Nat->Bool) (op:Op):EK:=
 match op with
 | .move x | .assign x => .mov (Ak G x)
 | .pick c a b => .pick (Ak G c) (Ak G a) (Ak G b)
 | .alloc el=>match JL P el with
  | some [] => .alloc0 el
  | some z => .alloc el z
  | none => .bad
 | .box el x=>match JL P el with
  | some [] => .box0 el (Ak G x)
  | _ => .box el (Ak G x)
 | .build t ps=>
  match P.underlying t,JL P t with
  | some (.struct fs),some z=>match Kl P fs.toList with
   | some pl=>match EG G (pl[·]?) ps.toList with
    | some l => .build z l
    | none => .bad
   | none => .bad
  | some (.array _ el),some z=>match GF P el with
   | some s=>match EG G (fun i=>some (i*s,s)) ps.toList with
    | some l => .build z l
    | none => .bad
   | none => .bad
  | _,_ => .bad
 | .buildSlice t n ps=>
  match P.underlying t with
  | some (.slice el)=>match GF P el,JL P el with
   | some s,some z=>match EG G (fun i=>some (i*s,s)) ps.toList with
    | some l=>if n*s > 2 ^ 24 || z.length != s then .bad else .buildSlice el n (BT n z).flatten l
    | none => .bad
   | _,_ => .bad
  | _ => .bad
 | .load t x=>match GW P t with
  | some (some 0) => .load0 (Ak G x)
  | some s => .load s (Ak G x)
  | none => .bad
 | .store t x v=>match GF P t with
  | some 0 => .store0 (Ak G x) (Ak G v)
  | some n => .store n (Ak G x) (Ak G v)
  | none => .bad
 | .nilCheck x => .nilck (Ak G x)
 | .binOp o t x y _ => .bin o (WH P o t x y) (Ak G x) (Ak G y)
 | .unOp o _ x => .un o (Ak G x)
 | .convert s d x => .conv (cm P s d) (Ak G x)
 | .makeInterface t x=>match P.underlying t with
  | some (.interface _) => .bad
  | some _ => .mkifc t (Ak G x)
  | none => .bad
 | .makeFunc (.func f) a c => .mkfn f (a.toList.map (Ak G)) (c.toList.map (Ak G))
 | .makeSlice t l c=>match P.underlying t with
  | some (.slice el)=>match P.info? el,JL P el with
   | some i,some z=>if z.length != i.size then .bad else .mkslice el i.size i.bytes z (Ak G l) (Ak G c)
   | _,_ => .bad
  | _ => .bad
 | .slice t x lo hi mx=>if mx.isSome && !hi.isSome then .bad else match P.underlying t with
  | some .string=>match mx with
   | none => .sliceStr (Ak G x) (lo.map (Ak G)) (hi.map (Ak G))
   | some _ => .bad
  | some (.slice el)=>match GF P el with
   | some s => .sliceSl s (Ak G x) (lo.map (Ak G)) (hi.map (Ak G)) (mx.map (Ak G))
   | none => .bad
  | some (.array n el)=>match GF P el with
   | some s => .sliceArr n s (Ak G x) (lo.map (Ak G)) (hi.map (Ak G)) (mx.map (Ak G))
   | none => .bad
  | _ => .bad
 | .fieldAddr s x f=>match P.underlying s with
  | some (.struct fs)=>match fs[f]? with
   | some fd=>match GF P fd.type with
    | some 0=>if fd.offset==0&&fd.byteOffset==0&&P.cellsOf s==0 then .faddr0 s (Ak G x)else .bad
    | some _ => .faddr fd.offset (Ak G x)
    | none => .bad
   | none => .bad
  | _ => .bad
 | .field s x f=>match P.underlying s with
  | some (.struct fs)=>match fs[f]? with
   | some fd=>match GW P fd.type with
    | some n => .field fd.offset n (Ak G x)
    | none => .bad
   | none => .bad
  | _ => .bad
 | .indexAddr t x i=>match P.underlying t with
  | some (.slice el)=>match GF P el with
   | some s => .iaddrS s (Ak G x) (Ak G i)
   | none => .bad
  | some (.array n el)=>match GF P el with
   | some s => .iaddrA n s (Ak G x) (Ak G i)
   | none => .bad
  | _ => .bad
 | .index t x i=>match P.underlying t with
  | some .string => .idxStr (Ak G x) (Ak G i)
  | some (.array n el)=>match GF P el,GW P el with
   | some z,some s => .idxArr n z s (Ak G x) (Ak G i)
   | _,_ => .bad
  | _ => .bad
 | .extract x i => .extract i (Ak G x)
 | .makeMap _ none => .mkmap
 | .lookup t m x true=>match P.underlying t with
  | some (.map k el) => .lookup (PR P k) (NS P el) (Ak G m) (Ak G x)
  | _ => .bad
 | .mapUpdate t m k v=>match P.underlying t with
  | some (.map kt _) => .mapset (PR P kt) (Ak G m) (Ak G k) (Ak G v)
  | _ => .bad
 | .call c=>match c.callee with
  | .builtin b=>KM P G b c.argTypes c.args
  | .value (.func f) => .call f (c.args.toList.map (Ak G))
  | .value (.tmp t) => .callv (.tmp t) (c.args.toList.map (Ak G))
  | _ => .bad
 | _ => .bad
def OJ (ops:Array Oper) (g:Option (Nat × Bool)):Option (Option (Nat × Bool)):=
 match g with
 | none=>some none
 | some (j,b)=>match (ops[j]?).bind (·.dst)with
  | some t=>some (some (t,b))
  | none=>none
def GG (nt:Nat):Option Nat->Bool
 | some d=>Cf d nt
 | none=>true
def BC (P:Program) (G:Nat->Bool) (nt:Nat) (ops:Array Oper) (o:Oper):BR:=
 match OJ ops o.guard,GG nt o.dst with
 | some g,true=>⟨o.dst,Ac P G o.op,g⟩
 | _,_=>⟨o.dst,.bad,none⟩
def cL (ops:Array Oper) (o:Oper):List Nat:=
 (o.op.operands.toList.filterMap fun | .tmp t=>some t | _=>none) ++
 (match o.guard with
  | some (g,_)=>((ops[g]?).bind (·.dst)).toList
  | none=>[])
def GK (ops:Array Oper):List DP:=(ops.toList.zip (Region.before ops).toList).map fun(o,m)=>⟨m,cL ops o⟩
def T5:Nat->(Nat->Bool)->Bool
 | 0,_=>true
 | n+1,p=>p n&&T5 n p
def Gp (pl:List DP) (i:Nat):Nat:=(pl.getD i ⟨0,[]⟩).anc
def Ns (ops:Array Oper) (l:List BR) (pl:List DP):Bool:=
 Ag pl.length ops.size &&
 T5 ops.size fun i=>
  match ops[i]?,l[i]?,pl[i]? with
  | some o,some ao,some p=>
   o.after.toList.all (fun e=>!Region.binds .any e || Cf e.on i) &&
   T5 ops.size fun k=>
    (!p.anc.testBit k || o.after.toList.any (fun e=>Region.binds .any e&&(Ag e.on k || (Gp pl e.on).testBit k))) &&
    (Ag i k || match ops[k]?,l[k]?,pl[k]? with
     | some o',some ao',some p'=>
      (match o.dst with
       | none=>true
       | some t=>(match o'.dst with | some t'=>!Ag t t' | none=>true)&&(!Bd p'.looks t || p'.anc.testBit i || p.anc.testBit k)) &&
      (match ao.op.cls,ao'.op.cls with
       | .k,.k=>!Cf i k || p'.anc.testBit i
       | _,_=>true)
     | _,_,_=>false)
  | _,_,_=>false
def CB (P:Program) (G:Nat->Bool) (nt:Nat):Code->AC
 | .skip => .skip
 | .region _ ops false => .region (ops.toList.map (BC P G nt ops))
 | .region _ ops true=>if Ns ops (ops.toList.map (BC P G nt ops)) (GK ops)then .draw (ops.toList.map (BC P G nt ops)) (GK ops)else .bad
 | .seq a b => .seq (CB P G nt a) (CB P G nt b)
 | .cond c a b => .cond (Ak G c) (CB P G nt a) (CB P G nt b)
 | .block id c => .block id (CB P G nt c)
 | .loop c => .loop (CB P G nt c)
 | .exit id => .exit id
 | .ret => .ret
 | _ => .bad
def OI (P:Program):ResultVar->Option AR
 | .tmp t=>some (.tmp t)
 | .cell t ty=>match GW P ty with
  | some s=>some (.cell t s)
  | none=>none
def GR (P:Program):List ResultVar->Option (List AR)
 | []=>some []
 | r::l=>match OI P r,GR P l with
  | some a,some m=>some (a::m)
  | _,_=>none
def Lo (P:Program) (G:Nat->Bool) (fn:Func):Option Wv:=
 match fn.body,GR P fn.results.toList with
 | some c,some r=>some ⟨fn.ntmps,r,[],CB P G fn.ntmps c⟩
 | _,_=>none
def AC.strip:AC->AC
 | .seq a b => .seq a.strip b.strip
 | .cond c a b => .cond c a.strip b.strip
 | .block id c => .block id c.strip
 | .loop c => .loop c.strip
 | .keep _ c=>c.strip
 | c=>c
def Wv.strip (f:Wv):Wv:=⟨f.ntmps,f.results,[],f.body.strip⟩
structure Bn (R:Ren) (e:Bt) (tmps:Array Value):Prop where
 at_:∀(k:Nat) (v:V),look e k=some v->v = .dead\/∃x,tmps[k]? = some x/\Ar R v=some x
theorem Bn.mono {R R':Ren} {e:Bt} {tmps:Array Value} (h:Bn R e tmps) (hle:Le R R'):Bn R' e tmps:=
 ⟨fun k v hk=>(h.at_ k v hk).imp id fun⟨x,h1,h2⟩=>⟨x,h1,Ch hle v x h2⟩⟩
theorem Bn.get {R:Ren} {e:Bt} {tmps:Array Value} (h:Bn R e tmps) {t:Nat} {v:V} (hv:GQ e t=v) (hl:v.live=true):∃x,tmps[t]? = some x/\Ar R v=some x:=by
 unfold GQ at hv
 cases ht:look e t with
 | none=>rw[ht]at hv;subst hv;cases hl
 | some u=>
  rw[ht]at hv
  simp only at hv
  subst hv
  rcases h.at_ t _ ht with rfl|h
  ·cases hl
  ·exact h
def Dp (G:Nat->Bool) (R:Ren):Prop:=∀g,G g=true->∃i,R g=some i/\i.blk=g/\i.shift=0
theorem OV (R:Ren) (x:Value) (h:(Ej x).live=true):Ar R (Ej x)=some x:=by
 unfold Ej at h ⊢
 split at h<;>first | rfl | (simp only[Ar,BS.toList_ofList];done) | (cases h;done)
theorem Jn (R:Ren):∀(l:List Value),(l.map Ej).all V.live=true->Az R (l.map Ej)=some l
 | [],_=>rfl
 | x::l,h=>by
  simp only[B3,Vp,AF]at h
  exact BM.2 ⟨x,l,OV R x h.1,Jn R l h.2,rfl⟩
theorem U6 (R:Ren) (x:Value) (h:(Wh x).live=true):Ar R (Wh x)=some x:=by
 cases x with
 | agg cs=>
  simp only[Wh]at h ⊢
  by_cases hl:(cs.toList.map Ej).all V.live=true
  ·rw[if_pos hl];rw[DX (Jn R _ hl)]
  ·rw[if_neg hl]at h;cases h
 | _=>simp only[Wh]at h ⊢;exact OV R _ h
theorem U5 (R:Ren) {x:Value} {l:List V} (h:ZE x=some l):Az R l=some x.cells.toList:=by
 unfold ZE at h
 split at h
 ·cases h;exact Jn R _ ‹_›
 ·cases h
section
variable {G:Nat->Bool} {R:Ren} {e:Bt} {a:Act}
theorem ev (he:Bn R e a.tmps) (hg:Dp G R) {o:Operand} {v:V} (h:CV e (Ak G o)=v) (hl:v.live=true):Ar R v=some (a.eval o):=by
 subst h
 cases o with
 | tmp t=>
  simp only[Ak,CV]at hl ⊢
  obtain⟨x,hx,hc⟩:=he.get rfl hl
  simp only[hc,Act.eval,D8,hx,Option.getD_some]
 | const x=>exact U6 R x hl
 | global g=>
  simp only[Ak]at hl ⊢
  by_cases hG:G g=true
  ·rw[if_pos hG]
   obtain⟨i,hi,hb,hs⟩:=hg g hG
   simp[CV,Ar,hi,hb,hs,Act.eval]
  ·rw[if_neg hG]at hl;cases hl
 | func f=>simp[Ak,CV,Ar,Az,Act.eval]
theorem IG (he:Bn R e a.tmps) (hg:Dp G R) {o:Operand} {b off:Nat} (h:CV e (Ak G o) = .ptr b off) :
  ∃i,R b=some i/\a.eval o = .pointer (some ⟨i.blk,i.shift+off,none⟩):=by
 have:=ev he hg h rfl
 simp only[Ar,Ao]at this
 obtain⟨i,hi,hx⟩:=this
 exact⟨i,hi,hx.symm⟩
theorem Fq (he:Bn R e a.tmps) (hg:Dp G R) {o:Operand} {k:IntKind} {n:Int} (h:CV e (Ak G o) = .int k n):a.eval o = .int k n:=by
 have:=ev he hg h rfl
 simp only[Ar,AK.injEq]at this
 exact this.symm
theorem KB (he:Bn R e a.tmps) (hg:Dp G R) {o:Operand} {n:Bool} (h:CV e (Ak G o) = .bool n):a.eval o = .bool n:=by
 have:=ev he hg h rfl
 simp only[Ar,AK.injEq]at this
 exact this.symm
theorem Kx (he:Bn R e a.tmps) (hg:Dp G R) {o:Operand} {l:BS} (h:CV e (Ak G o) = .str l):a.eval o = .string ⟨l.toList.toArray⟩:=by
 have:=ev he hg h rfl
 simp only[Ar,AK.injEq]at this
 exact this.symm
theorem RF (he:Bn R e a.tmps) (hg:Dp G R) {o:Operand} {l:List V} (h:CV e (Ak G o) = .agg l):∃x,Az R l=some x/\a.eval o = .agg x.toArray:=by
 exact Ha (ev he hg h rfl)
theorem kQ (he:Bn R e a.tmps) (hg:Dp G R) {o:Operand} {l:List V} (h:CV e (Ak G o) = .tup l):∃x,Az R l=some x/\a.eval o = .tuple x.toArray:=by
 exact SX (ev he hg h rfl)
theorem qO (he:Bn R e a.tmps) (hg:Dp G R):∀(l:List Operand),(Fe e (l.map (Ak G))).all V.live=true->Az R (Fe e (l.map (Ak G)))=some (l.map a.eval)
 | [],_=>rfl
 | o::l,h=>by
  simp only[Fe,B3,Vp,AF]at h
  exact BM.2 ⟨_,_,ev he hg rfl h.1,qO he hg l (by simpa[Fe]using h.2),rfl⟩
end
theorem HP:∀(l:List V) (n:Nat) (cs:List V),(F0 l n cs).length=l.length
 | l,n,[]=>by cases l<;>simp[F0]
 | [],n,c::cs=>by simp[F0]
 | _::l,0,c::cs=>by simp[F0,HP l 0 cs]
 | _::l,n+1,c::cs=>by simp[F0,HP l n (c::cs)]
theorem LN:∀(l:List V) (n:Nat) (cs:List V) (k:Nat),(F0 l n cs)[k]? = if n<=k/\k<n+cs.length then(if k<l.length then cs[k-n]? else none)else l[k]?
 | l,n,[],k=>by cases l<;>simp[F0]<;>omega
 | [],n,c::cs,k=>by simp[F0]
 | b::l,0,c::cs,k=>by
  cases k with
  | zero=>simp[F0]
  | succ k=>simp only[F0,CN,LN l 0 cs k,CD,true_and,AM,B2,L5,ABi]
 | b::l,n+1,c::cs,k=>by
  cases k with
  | zero=>simp[F0]
  | succ k=>
   simp only[F0,CN,LN l n (c::cs) k,AM,Nat.add_le_add_iff_right,ABi,Nat.add_sub_add_right]
   by_cases h:n<=k/\k<n+(cs.length+1)
   ·rw[if_pos h,if_pos (show n<=k/\k+1<n+1+(cs.length+1)by omega)]
   ·rw[if_neg h,if_neg (show ¬(n<=k/\k+1<n+1+(cs.length+1))by omega)]
theorem P5 (off:Nat):∀(vs:List Value) (cs:Array Value) (i:Nat),
  ((vs.zipIdx i).foldl (fun cs (x:Value × Nat)=>cs.setIfInBounds (off+x.2) x.1) cs).size=cs.size /\
  ∀k,((vs.zipIdx i).foldl (fun cs (x:Value × Nat)=>cs.setIfInBounds (off+x.2) x.1) cs)[k]? =
   if off+i<=k/\k<off+i+vs.length/\k<cs.size then vs[k-(off+i)]? else cs[k]?
 | [],cs,i=>by
  refine⟨rfl,fun k=>?_⟩
  rw[if_neg (by simp;omega)]
  rfl
 | v::vs,cs,i=>by
  obtain⟨h1,h2⟩:=P5 off vs (cs.setIfInBounds (off+i) v) (i+1)
  simp only[List.zipIdx_cons,List.foldl_cons]
  refine⟨by rw[h1,Dq],fun k=>?_⟩
  rw[h2,Dq,A1]
  by_cases hk:off+i=k
  ·subst hk
   rw[if_neg (by omega),if_pos rfl]
   by_cases hs:off+i<cs.size
   ·rw[if_pos hs,if_pos (by simp;omega)];simp
   ·rw[if_neg hs,if_neg (by omega),Bq (by omega)]
  ·rw[if_neg hk]
   by_cases hc:off+(i+1)<=k/\k<off+(i+1)+vs.length/\k<cs.size
   ·rw[if_pos hc,if_pos (by simp;omega)]
    have:k-(off+i)=(k-(off+(i+1)))+1:=by omega
    rw[this,CN]
   ·rw[if_neg hc,if_neg (by simp only[AM];omega)]
theorem WW {R:Ren} {z:List V} {arr:Array Value} (hz:Az R z=some arr.toList) {v:V} {x:Value} (hv:Ar R v=some x) {off:Nat}
  (hle:off+v.cells.length<=z.length) :
  Az R (F0 z off v.cells)=some ((x.cells.zipIdx).foldl (fun cs (c,j)=>cs.setIfInBounds (off+j) c) arr).toList:=by
 have hcs:=HZ hv
 have hlen:=Ba hcs
 have hzl:=Ba hz
 have hf:(x.cells.zipIdx).foldl (fun cs (c,j)=>cs.setIfInBounds (off+j) c) arr=((x.cells.toList.zipIdx 0).foldl (fun cs (y:Value × Nat)=>cs.setIfInBounds (off+y.2) y.1) arr):=by
  rw[<-Array.foldl_toList,Array.toList_zipIdx]
 rw[hf]
 obtain⟨h1,h2⟩:=P5 off x.cells.toList arr 0
 refine Lm ?_ ?_
 ·rw[HP,EX,h1];simpa using hzl
 ·intro k u hk
  rw[LN]at hk
  rw[GZ,h2]
  simp only[L6]
  simp only[EX]at hlen hzl
  by_cases hc:off<=k/\k<off+v.cells.length
  ·rw[if_pos hc,if_pos (by omega)]at hk
   obtain⟨b,hb,hx⟩:=EE hcs hk
   refine⟨b,hb,?_⟩
   rw[if_pos (by simp only[EX];omega)]
   exact hx
  ·rw[if_neg hc]at hk
   obtain⟨b,hb,hx⟩:=EE hz hk
   refine⟨b,hb,?_⟩
   rw[if_neg (by simp only[EX];omega)]
   simpa using hx
section
variable {G:Nat->Bool} {R:Ren} {e:Bt} {a:Act}
theorem NJ (he:Bn R e a.tmps) (hg:Dp G R) {place:Nat->Option (Nat × Nat)}:∀(ps:List (Nat × Operand)) (l:List (Nat × Nat × AO)) (z r:List V) (arr:Array Value),
  EG G place ps=some l->Az R z=some arr.toList->Hq (JY e l) z=some r ->
  ∃out,Instr.fill place arr (ps.map fun(i,x)=>(i,a.eval x))=some out/\Az R r=some out.toList/\r.length=z.length
 | [],l,z,r,arr,hc,hz,hf=>by
  simp only[EG,AK.injEq]at hc;subst hc
  simp only[JY,L7,Hq,AK.injEq]at hf;subst hf
  exact⟨arr,rfl,hz,rfl⟩
 | (i,x)::ps,l,z,r,arr,hc,hz,hf=>by
  simp only[EG]at hc
  cases hp:place i with
  | none=>rw[hp]at hc;cases hc
  | some os=>
   obtain⟨off,size⟩:=os
   rw[hp]at hc
   cases hr:EG G place ps with
   | none=>rw[hr]at hc;cases hc
   | some l'=>
    rw[hr]at hc
    simp only[AK.injEq]at hc;subst hc
    simp only[JY,B3,Hq]at hf
    split at hf
    ·rename_i hcond
     simp only[AF,AQ,Ai]at hcond
     obtain⟨⟨hl,hs⟩,hb⟩:=hcond
     have hv:=ev (a:=a) he hg rfl hl
     have hcs:=HZ hv
     have hlen:=Ba hcs
     have hzl:=Ba hz
     simp only[EX]at hlen hzl
     obtain⟨out,h1,h2,h3⟩:=NJ he hg ps l' _ r _ hr (WW hz hv (off:=off) (by omega)) hf
     refine⟨out,?_,h2,by rw[h3,HP]⟩
     simp only[B3,Instr.fill,hp]
     rw[if_neg (by simp;omega)]
     exact h1
    ·cases hf
end
end Go.Og
set_option linter.unusedSimpArgs false
namespace Go.Og
variable {P:Program} {G:Nat->Bool} {R:Ren} {e:Bt} {a:Act}
theorem EA {t:TypeId} {n:Nat} (h:GF P t=some n) (w:World):(sizeOf t).run P w = .ok n w:=by
 simp only[GF,Ao]at h
 obtain⟨i,hi,rfl⟩:=h
 simp[sizeOf,typeInfo,hi]
theorem GJ {t:TypeId} {l:List V} (h:JL P t=some l) (w:World):∃z,(zeroValue t).run P w = .ok z w/\Az R l=some z.cells.toList:=by
 unfold JL at h
 cases hi:P.info? t with
 | none=>rw[hi]at h;cases h
 | some i=>
  rw[hi]at h
  cases hz:i.zero with
  | none=>simp only[hz]at h;cases h
  | some z=>
   simp only[hz]at h
   exact⟨z,by simp[zeroValue,typeInfo,hi,hz],U5 R h⟩
theorem J3 {t:TypeId} {s:Option Nat} (h:GW P t=some s) (w:World) :
  (isAgg t).run P w = .ok s.isSome w/\∀n,s=some n->(sizeOf t).run P w = .ok n w:=by
 unfold GW at h
 cases hu:P.underlying t with
 | none=>rw[hu]at h;cases h
 | some d=>
  cases hi:P.info? t with
  | none=>rw[hu,hi]at h;cases d<;>cases h
  | some i=>
   rw[hu,hi]at h
   cases d<;>(simp only[AK.injEq]at h;subst h;simp[isAgg,run_underlying hu,sizeOf,typeInfo,hi])
theorem Pt:∀{fs:List Field} {pl:List (Nat × Nat)} (w:World),Kl P fs=some pl ->
  (fs.mapM (m:=Sem) fun f=>do pure (f.offset,<-sizeOf f.type)).run P w = .ok pl w
 | [],pl,w,h=>by simp only[Kl,AK.injEq]at h;subst h;rfl
 | f::fs,pl,w,h=>by
  simp only[Kl]at h
  cases hi:P.info? f.type with
  | none=>rw[hi]at h;cases h
  | some i=>
   rw[hi]at h
   cases hr:Kl P fs with
   | none=>rw[hr]at h;cases h
   | some r=>
    rw[hr]at h;simp only[AK.injEq]at h;subst h
    have ih:=Pt w hr
    rw[RZ]
    simp only[Sem.run_bind,sizeOf,typeInfo,run_program,hi,Result.andThen_ok,Sem.run_pure]
    simp only[sizeOf,typeInfo,Sem.run_bind]at ih
    rw[ih]
    rfl
theorem Fj (op:BinOp) (t:TypeId) (x y:Operand) (u v:Value) (w:World)
  (h:∀z,(u = .agg z->False)) (h':u = .nilIface->v = .nilIface->False):(eqGuard op t x y u v).run P w = .ok () w:=by
 cases u with
 | agg z=>exact(h z rfl).elim
 | nilIface=>
  cases v with
  | nilIface=>exact(h' rfl rfl).elim
  | _=>cases op<;>rfl
 | _=>cases op<;>rfl
theorem WC {op:BinOp} {x y:Int} {b:Bool} (h:RG op x y=some b) (w:World):(Op.intCmp op x y).run P w = .ok (.bool b) w:=by
 unfold RG at h
 split at h<;>first | (cases h;rfl) | (cases h)
theorem Y9 {op:BinOp} {t:Fg} {k k':IntKind} {x y:Int} {v:V} (h:Ib op t (.int k x) (.int k' y)=some v) (ty:TypeId) (w:World) :
    ∃r,Ar R v=some r/\(binOp op ty (.int k x) (.int k' y)).run P w = .ok r w:=by
  cases op
  case shl=>
    simp only[Ib,Ao]at h
    obtain⟨n,hn,rfl⟩:=h
    refine⟨_,rfl,?_⟩
    simp only[Nn]at hn
    split at hn
    · cases hn
    · cases hn
      simp only[binOp,Op.shift]
      rw[if_neg (by omega)]
      rfl
  case shr=>
    simp only[Ib,Ao]at h
    obtain⟨n,hn,rfl⟩:=h
    refine⟨_,rfl,?_⟩
    simp only[Nn]at hn
    split at hn
    · cases hn
    · cases hn
      simp only[binOp,Op.shift]
      rw[if_neg (by omega)]
      rfl
  all_goals
    simp only[Ib]at h
    split at h
    · rename_i hk
      subst hk
      simp only[Ao]at h
      obtain⟨n,hn,rfl⟩:=h
      refine⟨_,rfl,?_⟩
      simp only[binOp,ne_eq,not_true_eq_false,if_false]
      first
        | exact WC hn w
        | (simp only[U2]at hn
           first
             | (cases hn;rfl)
             | (split at hn
                · cases hn
                · rename_i h0
                  cases hn
                  simp only[Op.intDiv]
                  rw[if_neg h0]
                  rfl))
    · cases h
theorem Y8 {op:BinOp} {t:Fg} {a b:BS} {v:V} (h:Ib op t (.str a) (.str b)=some v) (ty:TypeId) (w:World) :
  ∃r,Ar R v=some r/\(binOp op ty (.string ⟨a.toList.toArray⟩) (.string ⟨b.toList.toArray⟩)).run P w = .ok r w:=by
 have hq:a.beq b=(a.toList==b.toList):=by rw[BS.beq_eq];by_cases h:a.toList=b.toList<;>simp[h]
 have hca:=BS.toList_cat a b
 have hla:=BS.length_toList a
 have hlb:=BS.length_toList b
 simp only[Ib]at h
 cases op<;>simp only[XZ,hq]at h
 all_goals
  generalize hx0:a.toList=x at *
  generalize hy0:b.toList=y at *
  have hx:(ByteArray.mk x.toArray).toList=x:=by rw[ByteArray.toList_eq]
  have hy:(ByteArray.mk y.toArray).toList=y:=by rw[ByteArray.toList_eq]
 case add=>
  split at h
  ·rename_i hl
   cases h
   refine⟨_,rfl,?_⟩
   rw[hca]
   simp only[Ai,Nat.add_eq]at hl
   have h1:(ByteArray.mk x.toArray).size=x.length:=by simp[ByteArray.size]
   have h2:(ByteArray.mk y.toArray).size=y.length:=by simp[ByteArray.size]
   simp only[binOp,Op.stringOp,h1,h2]
   rw[if_neg (by simp[IntKind.max,IntKind.signed,IntKind.bits];omega)]
   have h3:(ByteArray.mk x.toArray)++(ByteArray.mk y.toArray)=⟨(x++y).toArray⟩:=by
    apply ByteArray.ext
    simp[ByteArray.data_append]
   rw[h3]
   rfl
  ·cases h
 all_goals first
  | (cases h;refine⟨_,rfl,?_⟩;simp only[binOp,Op.stringOp,hx,hy];rfl)
  | cases h
theorem It {b off:Nat} {x:Value} (h:Ar R (.ptr b off)=some x):∃i,R b=some i/\x = .pointer (some ⟨i.blk,i.shift+off,none⟩):=by
 simp only[Ar,Ao]at h
 obtain⟨i,hi,hx⟩:=h
 exact⟨i,hi,hx.symm⟩
theorem C3 {b off n:Nat} {c:Vo} {x:Value} (h:Ar R (.sl b off n c)=some x) :
  ∃i m,R b=some i/\x = .slice (some ⟨i.blk,i.shift+off,none⟩) n m/\(∀k,c = .ex k->m=k)/\(∀k,c = .op k->m=i.cap k off/\n<=m):=by
 cases c with
 | ex k=>
  simp only[Ar,Ao]at h
  obtain⟨i,hi,hx⟩:=h
  exact⟨i,k,hi,hx.symm,fun _ e=>by cases e;rfl,fun _ e=>by cases e⟩
 | op k=>
  simp only[Ar,D2]at h
  obtain⟨i,hi,hx⟩:=h
  by_cases hc:n<=i.cap k off/\i.cap k off<=9223372036854775807
  ·rw[if_pos hc]at hx;cases hx
   exact⟨i,_,hi,rfl,(fun _ e=>by cases e),(fun _ e=>by cases e;exact⟨rfl,hc.1⟩)⟩
  ·rw[if_neg hc]at hx;cases hx
theorem OH {b off n k:Nat} {x:Value} {i:BI} (h:Ar R (.sl b off n (.op k))=some x) (hi:R b=some i):i.cap k off<=9223372036854775807:=by
 simp only[Ar,hi,L4]at h
 by_cases hc:n<=i.cap k off/\i.cap k off<=9223372036854775807
 ·exact hc.2
 ·rw[if_neg hc]at h;cases h
theorem ER {b off k z:Nat} {x:Value} (h:Ar R (.sle b off k z)=some x) :
  ∃i,R b=some i/\k<=i.cap z off/\x = .slice (some (if i.cap z off=k then⟨i.blk,i.shift+off,none⟩else(⟨i.blk,i.shift+off,none⟩:Addr).add (k*z))) 0 (i.cap z off-k):=by
 simp only[Ar,D2]at h
 obtain⟨i,hi,hx⟩:=h
 by_cases hc:k<=i.cap z off
 ·rw[if_pos hc]at hx;cases hx;exact⟨i,hi,hc,rfl⟩
 ·rw[if_neg hc]at hx;cases hx
theorem Ln {t:TypeId} {v:V} {x:Value} (h:Ar R (.ifc t v)=some x):∃y,Ar R v=some y/\x = .iface t y:=by
 simp only[Ar]at h
 cases hv:Ar R v with
 | none=>rw[hv]at h;cases h
 | some y=>rw[hv]at h;cases h;exact⟨y,rfl,rfl⟩
theorem Hr {b:Nat} {x:Value} (h:Ar R (.mp b)=some x):∃i,R b=some i/\x = .map (some i.blk):=by
 simp only[Ar,Ao]at h
 obtain⟨i,hi,hx⟩:=h
 exact⟨i,hi,hx.symm⟩
theorem Jl {f:FuncId} {l m:List V} {x:Value} (h:Ar R (.fn f l m)=some x):∃y z,Az R l=some y/\Az R m=some z/\x = .func (.func f) y.toArray z.toArray:=by
 simp only[Ar]at h
 cases hl:Az R l with
 | none=>simp only[hl]at h;cases h
 | some y=>
  cases hm:Az R m with
  | none=>simp only[hl,hm]at h;cases h
  | some z=>simp only[hl,hm]at h;cases h;exact⟨y,z,rfl,rfl,rfl⟩
theorem SR {t:TypeId} {u v:Value} {b:Bool} (w:World)
  (h:∀n,(Op.equalIn (n+1) t u v).run P w = .ok b w):(Op.equal t u v).run P w = .ok b w:=h 9999
theorem OL:∀{xs:List V} {o:Nat} {v:V},Iu xs o=v->v.live=true->xs[o]? = some v
 | [],_,v,h,hl=>by subst h;cases hl
 | a::l,0,v,h,_=>by subst h;rfl
 | a::l,n+1,v,h,hl=>by simpa using OL (xs:=l) (o:=n) h hl
def Yi:TypeDesc->FK->Bool
 | .int _,.int=>true
 | .bool,.bool=>true
 | .string,.str=>true
 | _,_=>false
theorem MH {t:TypeId} {d:TypeDesc} {k:FK} (hu:P.underlying t=some d) (hd:Yi d k=true)
  {xs:List V} {X:List Value} (hX:Az R xs=some X) {o:Nat} {v:V} (hv:Iu xs o=v) (hl:v.live=true) (w:World) :
  ∃x,Ar R v=some x/\(part t X.toArray o).run P w = .ok x w:=by
 obtain⟨x,hx,hg⟩:=EE hX (OL hv hl)
 refine⟨x,hx,?_⟩
 have hg':X.toArray[o]? = some x:=by simpa using hg
 have ha:(isAgg t).run P w = .ok false w:=by
  cases d<;>first | (cases k<;>cases hd;done) | simp[isAgg,run_underlying hu]
 simp only[part,Sem.run_bind,ha,Result.andThen_ok,Cd,if_false,hg',Sem.run_pure]
theorem WI {t:TypeId} {d:TypeDesc} {k:FK} (hu:P.underlying t=some d) (hk:Yi d k=true)
  {u v:V} {b:Bool} (h:Ky k u v=some b) {x y:Value} (hx:Ar R u=some x) (hy:Ar R v=some y) (n:Nat) (w:World):(Op.equalIn (n+1) t x y).run P w = .ok b w:=by
 unfold Ky at h
 split at h<;>(try (cases h;done))<;>(cases hx;cases hy)<;>(cases d<;>first | (cases hk;done) | skip)
 ·split at h
  ·rename_i he
   simp only[AK.injEq]at h;subst h;subst he
   rw[Tt];simp[Op.equalIn,run_underlying hu]
  ·cases h
 ·simp only[AK.injEq]at h;subst h
  simp[Op.equalIn,run_underlying hu]
 ·simp only[AK.injEq]at h;subst h
  rename_i p q
  rw[run_equalIn_string w n t _ _ hu,ByteArray.toList_eq,ByteArray.toList_eq,BS.beq_eq]
  by_cases e:p.toList=q.toList<;>simp[e]
theorem Me {k:FK} {u v:V} {b:Bool} (h:Ky k u v=some b):u.live=true/\v.live=true:=by
 unfold Ky at h
 split at h<;>first | exact⟨rfl,rfl⟩ | cases h
theorem KC {xs ys:List V} {X Y:List Value} (hX:Az R xs=some X) (hY:Az R ys=some Y) (n:Nat) (w:World):∀{fs:List Field} {l:List (Nat × FK)} {b:Bool},
  Gy P fs=some l->Gz l xs ys=some b->(Op.eqFields (n+1) X.toArray Y.toArray fs).run P w = .ok b w
 | [],l,b,hl,h=>by
  simp only[Gy,AK.injEq]at hl;subst hl
  simp only[Gz,AK.injEq]at h;subst h
  rfl
 | f::fs,l,b,hl,h=>by
  simp only[Gy]at hl
  by_cases hn:f.name = "_"
  ·have hb:(f.name == "_")=true:=by simp[hn]
   rw[hb]at hl
   simp only[Op.eqFields]
   rw[if_neg (by simp[hn])]
   exact KC hX hY n w hl h
  ·have hb:(f.name == "_")=false:=by simp[hn]
   rw[hb]at hl
   cases hr:Gy P fs with
   | none=>rw[hr]at hl;cases hl
   | some r=>
    rw[hr]at hl
    cases hu:P.underlying f.type with
    | none=>simp only[hu]at hl;cases hl
    | some d=>
     simp only[hu]at hl
     have hk:∃k,l=(f.offset,k)::r/\Yi d k=true:=by
      cases d<;>simp only[AK.injEq,reduceCtorEq]at hl<;>subst hl<;>exact⟨_,rfl,rfl⟩
     obtain⟨k,rfl,hk⟩:=hk
     simp only[Gz]at h
     cases hc:Ky k (Iu xs f.offset) (Iu ys f.offset)with
     | none=>simp only[hc]at h;cases h
     | some a=>
      simp only[hc]at h
      cases hf:Gz r xs ys with
      | none=>simp only[hf]at h;cases h
      | some b'=>
       simp only[hf,AK.injEq]at h;subst h
       obtain⟨hlu,hlv⟩:=Me hc
       obtain⟨x,hx,hpx⟩:=MH (P:=P) hu hk hX rfl hlu w
       obtain⟨y,hy,hpy⟩:=MH (P:=P) hu hk hY rfl hlv w
       simp only[Op.eqFields]
       rw[if_pos hn]
       simp only[Sem.run_bind,hpx,hpy,Result.andThen_ok,WI hu hk hc hx hy n w]
       cases a
       ·simp
       ·simpa using KC hX hY n w hr hf
theorem Ts {op:BinOp} (hop:op = .eql\/op = .neq) {t:TypeId} {ox oy:Operand} {fs:Array Field} (hut:P.underlying t=some (.struct fs)) {l:List (Nat × FK)} (htg:FI P t fs.toList = .flat l)
  {xs ys:List V} {b:Bool} (h:Gz l xs ys=some b) {u v:Value} (hu:Ar R (.agg xs)=some u) (hv:Ar R (.agg ys)=some v) (w:World) :
  (do eqGuard op t ox oy u v;binOp op t u v:Sem Value).run P w = .ok (.bool (if op = .eql then b else !b)) w:=by
 obtain⟨X,hX,rfl⟩:=Ha hu
 obtain⟨Y,hY,rfl⟩:=Ha hv
 have hfo:P.fieldsOf t=fs:=by simp[Program.fieldsOf,hut]
 unfold FI at htg
 cases hs:(P.stoodInHeld t || P.eqGuardType P.depth t)with
 | true=>rw[hs]at htg;cases htg
 | false=>
  rw[hs]at htg
  simp only[BN]at hs
  cases hfl:Gy P fs.toList with
  | none=>rw[hfl]at htg;cases htg
  | some l'=>
   rw[hfl]at htg
   simp only[Fg.flat.injEq]at htg;subst htg
   have he:(Op.equalIn 10000 t (.agg X.toArray) (.agg Y.toArray)).run P w = .ok b w:=by
    rw[run_equalIn_agg w 9999 t _ _ (by rw[hfo];exact hut) hs.1,hfo]
    exact KC hX hY 9998 w hfl h
   rw[Sem.run_bind,run_eqGuard_agg w op t ox oy _ _ hs.2,Result.andThen_ok]
   rcases hop with rfl|rfl
   ·rw[run_eql_struct,he];rfl
   ·rw[run_neq_struct,he];rfl
theorem OE (t:TypeId) (fs:List Field):FI P t fs = .none\/∃l,FI P t fs = .flat l:=by
 unfold FI
 split
 ·exact .inr ⟨_,rfl⟩
 ·exact .inl rfl
set_option maxHeartbeats 2000000 in
theorem Yk {op:BinOp} (hop:op = .eql\/op = .neq) {t:TypeId} {ox oy:Operand} {x y:V} {b:Bool} (h:KL (WH P op t ox oy) x y=some b)
  {u v:Value} (hu:Ar R x=some u) (hv:Ar R y=some v) (w:World):(do eqGuard op t ox oy u v;binOp op t u v:Sem Value).run P w = .ok (.bool (if op = .eql then b else !b)) w:=by
 have htag:WH P op t ox oy=(match P.underlying t with
  | some .bool => .bool
  | some (.struct fs)=>FI P t fs.toList
  | some (.pointer _) => .ptr
  | some (.slice _) => .slice
  | some (.map _ _) => .map
  | some (.func _ _ _) => .func
  | some (.interface _) => .iface (Lc ox || Lc oy)
  | _ => .none):=by rcases hop with rfl | rfl<;>rfl
 rw[htag]at h
 clear htag
 generalize htg:(match P.underlying t with
  | some .bool=>Fg.bool
  | some (.struct fs)=>FI P t fs.toList
  | some (.pointer _) => .ptr
  | some (.slice _) => .slice
  | some (.map _ _) => .map
  | some (.func _ _ _) => .func
  | some (.interface _) => .iface (Lc ox || Lc oy)
  | _ => .none)=tg at h
 have hd:∃d,P.underlying t=some d:=by
  cases hut:P.underlying t with
  | none=>rw[hut]at htg;subst htg;cases h
  | some d=>exact⟨d,rfl⟩
 obtain⟨d,hut⟩:=hd
 rw[hut]at htg
 have hfin:(eqGuard op t ox oy u v).run P w = .ok () w->(Op.equal t u v).run P w = .ok b w ->
   binOp .eql t u v=(do pure (.bool (<-Op.equal t u v)))->binOp .neq t u v=(do pure (.bool (!(<-Op.equal t u v)))) ->
   (do eqGuard op t ox oy u v;binOp op t u v:Sem Value).run P w = .ok (.bool (if op = .eql then b else !b)) w:=fun h1 h2 h3 h4=>by
  rcases hop with rfl|rfl
  ·rw[Sem.run_bind,h1,Result.andThen_ok,h3,Sem.run_bind,h2];rfl
  ·rw[Sem.run_bind,h1,Result.andThen_ok,h4,Sem.run_bind,h2];rfl
 have hplain:∀(hn:∀z,u = .agg z->False) (hm:u = .nilIface->v = .nilIface->False) (hb:∀n,(Op.equalIn (n+1) t u v).run P w = .ok b w),
   binOp .eql t u v=(do pure (.bool (<-Op.equal t u v)))->binOp .neq t u v=(do pure (.bool (!(<-Op.equal t u v)))) ->
   (do eqGuard op t ox oy u v;binOp op t u v:Sem Value).run P w = .ok (.bool (if op = .eql then b else !b)) w:=fun hn hm hb h3 h4=>
  hfin (Fj op t ox oy u v w hn hm) (SR w hb) h3 h4
 by_cases hst:∃fs,d = .struct fs
 ·obtain⟨fs,rfl⟩:=hst
  simp only at htg
  rcases OE (P:=P) t fs.toList with h0|⟨l,h0⟩
  ·rw[h0]at htg;subst htg;cases h
  ·rw[h0]at htg;subst htg
   cases x<;>cases y<;>first
    | (exact Ts hop hut h0 h hu hv w)
    | cases h
 unfold KL at h
 split at h<;>(try (cases h;done))<;>(try (simp only[AK.injEq]at h;subst h))
 all_goals (cases d<;>first | exact(hst ⟨_,rfl⟩).elim | simp only[reduceCtorEq]at htg)
 ·cases hu;cases hv
  exact hplain (fun _ e=>by cases e) (fun e=>by cases e) (fun n=>by simp[Op.equalIn,run_underlying hut]) rfl rfl
 ·cases hu;cases hv
  exact hplain (fun _ e=>by cases e) (fun e=>by cases e) (fun n=>by simp[Op.equalIn,run_underlying hut]) rfl rfl
 ·cases hu;obtain⟨i,_,rfl⟩:=It hv
  exact hplain (fun _ e=>by cases e) (fun e=>by cases e) (fun n=>by simp[Op.equalIn,run_underlying hut]) rfl rfl
 ·cases hv;obtain⟨i,_,rfl⟩:=It hu
  exact hplain (fun _ e=>by cases e) (fun e=>by cases e) (fun n=>by simp[Op.equalIn,run_underlying hut]) rfl rfl
 ·cases hu;cases hv
  exact hplain (fun _ e=>by cases e) (fun e=>by cases e) (fun n=>by simp[Op.equalIn,run_underlying hut]) rfl rfl
 ·cases hu;obtain⟨i,m,_,rfl,_⟩:=C3 hv
  exact hplain (fun _ e=>by cases e) (fun e=>by cases e) (fun n=>by simp[Op.equalIn,run_underlying hut]) rfl rfl
 ·cases hv;obtain⟨i,m,_,rfl,_⟩:=C3 hu
  exact hplain (fun _ e=>by cases e) (fun e=>by cases e) (fun n=>by simp[Op.equalIn,run_underlying hut]) rfl rfl
 ·cases hu;obtain⟨i,_,_,rfl⟩:=ER hv
  exact hplain (fun _ e=>by cases e) (fun e=>by cases e) (fun n=>by simp[Op.equalIn,run_underlying hut]) rfl rfl
 ·cases hv;obtain⟨i,_,_,rfl⟩:=ER hu
  exact hplain (fun _ e=>by cases e) (fun e=>by cases e) (fun n=>by simp[Op.equalIn,run_underlying hut]) rfl rfl
 ·cases hu;cases hv
  exact hplain (fun _ e=>by cases e) (fun e=>by cases e) (fun n=>by simp[Op.equalIn,run_underlying hut]) rfl rfl
 ·cases hu;obtain⟨i,_,rfl⟩:=Hr hv
  exact hplain (fun _ e=>by cases e) (fun e=>by cases e) (fun n=>by simp[Op.equalIn,run_underlying hut]) rfl rfl
 ·cases hv;obtain⟨i,_,rfl⟩:=Hr hu
  exact hplain (fun _ e=>by cases e) (fun e=>by cases e) (fun n=>by simp[Op.equalIn,run_underlying hut]) rfl rfl
 ·cases hu;cases hv
  exact hplain (fun _ e=>by cases e) (fun e=>by cases e) (fun n=>by simp[Op.equalIn,run_underlying hut]) rfl rfl
 ·cases hu;obtain⟨y,z,_,_,rfl⟩:=Jl hv
  exact hplain (fun _ e=>by cases e) (fun e=>by cases e) (fun n=>by simp[Op.equalIn,run_underlying hut]) rfl rfl
 ·cases hv;obtain⟨y,z,_,_,rfl⟩:=Jl hu
  exact hplain (fun _ e=>by cases e) (fun e=>by cases e) (fun n=>by simp[Op.equalIn,run_underlying hut]) rfl rfl
 ·cases hu;cases hv
  refine hfin ?_ (SR w (fun n=>by simp[Op.equalIn,run_underlying hut])) rfl rfl
  have hl:(Lc ox || Lc oy)=true:=by simpa using htg
  rcases hop with rfl|rfl<;>cases ox<;>cases oy<;>first|rfl|(exfalso;simp[Lc]at hl)
 ·cases hu;obtain⟨y,_,rfl⟩:=Ln hv
  exact hplain (fun _ e=>by cases e) (fun _ e=>by cases e) (fun n=>by simp[Op.equalIn,run_underlying hut]) rfl rfl
 ·cases hv;obtain⟨y,_,rfl⟩:=Ln hu
  exact hplain (fun _ e=>by cases e) (fun e=>by cases e) (fun n=>by simp[Op.equalIn,run_underlying hut]) rfl rfl
theorem cw {t:TypeId} {ox oy:Operand} {x y:V} {v:V} {op:BinOp} (hi:∀k n k' m,x = .int k n->y = .int k' m->False) (hs:∀l m,x = .str l->y = .str m->False)
  (h:Ib op (WH P op t ox oy) x y=some v):(op = .eql\/op = .neq)/\∃b,KL (WH P op t ox oy) x y=some b/\v = .bool (if op = .eql then b else !b):=by
 unfold Ib at h
 split at h
 ·exact(hi _ _ _ _ rfl rfl).elim
 ·exact(hs _ _ rfl rfl).elim
 ·cases op<;>simp only[Ao]at h<;>first
   | (obtain⟨b,hb,rfl⟩:=h;exact⟨.inl rfl,b,hb,by simp⟩)
   | (obtain⟨b,hb,rfl⟩:=h;exact⟨.inr rfl,b,hb,by simp⟩)
   | cases h
theorem Tq {tg:Fg} {x y:V} {b:Bool} (h:KL tg x y=some b):x.live=true/\y.live=true:=by
 unfold KL at h
 split at h<;>first | exact⟨rfl,rfl⟩ | cases h
theorem cv {o:BinOp} {t:TypeId} {ox oy:Operand} {v:V} (he:Bn R e a.tmps) (hg:Dp G R)
  (h:Ib o (WH P o t ox oy) (CV e (Ak G ox)) (CV e (Ak G oy))=some v) (w:World) :
  ∃x,Ar R v=some x/\(do eqGuard o t ox oy (a.eval ox) (a.eval oy);binOp o t (a.eval ox) (a.eval oy):Sem Value).run P w = .ok x w:=by
 by_cases hi:∃k n k' m,CV e (Ak G ox) = .int k n/\CV e (Ak G oy) = .int k' m
 ·obtain⟨k,n,k',m,hx,hy⟩:=hi
  rw[hx,hy]at h
  rw[Fq he hg hx,Fq he hg hy]
  obtain⟨r,hr,hrun⟩:=Y9 (R:=R) (P:=P) h t w
  exact⟨r,hr,by rw[Sem.run_bind,Fj _ _ _ _ _ _ _ (fun _ e=>by cases e) (fun e=>by cases e)];exact hrun⟩
 ·by_cases hs:∃l m,CV e (Ak G ox) = .str l/\CV e (Ak G oy) = .str m
  ·obtain⟨l,m,hx,hy⟩:=hs
   rw[hx,hy]at h
   rw[Kx he hg hx,Kx he hg hy]
   obtain⟨r,hr,hrun⟩:=Y8 (R:=R) (P:=P) h t w
   exact⟨r,hr,by rw[Sem.run_bind,Fj _ _ _ _ _ _ _ (fun _ e=>by cases e) (fun e=>by cases e)];exact hrun⟩
  ·obtain⟨hop,b,hb,rfl⟩:=cw (fun k n k' m hx hy=>hi ⟨k,n,k',m,hx,hy⟩) (fun l m hx hy=>hs ⟨l,m,hx,hy⟩) h
   obtain⟨hlx,hly⟩:=Tq hb
   have hu:=ev (a:=a) he hg rfl hlx
   have hv:=ev (a:=a) he hg rfl hly
   exact⟨_,rfl,Yk hop hb hu hv w⟩
end Go.Og
namespace Go.Og
variable {P:Program} {G:Nat->Bool} {R:Ren} {e:Bt} {a:Act}
theorem MT {m l:Nat} (h:¬m=l):Ag m l=false:=FP.2 (by rw[ne_eq,AQ];exact h)
theorem Y5 (x:V) (d d':Nat):Hk (some x) d=Hk (some x) d':=by cases x<;>rfl
theorem MR (he:Bn R e a.tmps) (hg:Dp G R) {o:Option Operand} {d n:Nat} (h:Hk (DR e (o.map (Ak G))) d=some n) (y:Nat) (hy:n<=y) (code:BoundsCode) (w:World) :
  (o=none/\n=d)\/∃x,o=some x/\(Instr.sliceBound (a.eval x) y code).run P w = .ok n w:=by
 cases o with
 | none=>simp only[al,DR,Hk,AK.injEq]at h;exact .inl ⟨rfl,h.symm⟩
 | some x=>
  right
  refine⟨x,rfl,?_⟩
  simp only[Bo,DR]at h
  unfold Hk at h
  split at h
  ·rename_i heq;cases heq
  ·rename_i k m heq
   simp only[AK.injEq]at heq
   split at h
   ·rename_i h0
    simp only[AK.injEq]at h
    subst h
    rw[Fq he hg heq]
    exact run_sliceBound w k m y code h0 (by omega)
   ·cases h
  ·cases h
theorem GS (he:Bn R e a.tmps) (hg:Dp G R) {lo hi mx:Option Operand} {len cap l h m:Nat} (isSlice:Bool)
  (hm:Hk (DR e (mx.map (Ak G))) cap=some m) (hh:Hk (DR e (hi.map (Ak G))) len=some h) (hl:Hk (DR e (lo.map (Ak G))) 0=some l)
  (h1:l<=h) (h2:h<=m) (h3:m<=cap) (hmx:mx.isSome=true->hi.isSome=true) (w:World) :
  (Instr.sliceBounds isSlice len cap (lo.map a.eval) (hi.map a.eval) (mx.map a.eval)).run P w = .ok (l,h,m) w:=by
 unfold Instr.sliceBounds
 rcases MR (P:=P) he hg hm cap h3 (if isSlice then .slice3Acap else .slice3Alen) w with ⟨rfl,rfl⟩|⟨x,rfl,hx⟩
 ·rcases MR (P:=P) he hg hh m h2 (if isSlice then .sliceAcap else .sliceAlen) w with ⟨rfl,rfl⟩|⟨y,rfl,hy⟩
  ·rcases MR (P:=P) he hg hl h h1 .sliceB w with ⟨rfl,rfl⟩|⟨z,rfl,hz⟩
   ·rfl
   ·simp[hz]
  ·rcases MR (P:=P) he hg hl h h1 .sliceB w with ⟨rfl,rfl⟩|⟨z,rfl,hz⟩
   ·simp[hy]
   ·simp[hy,hz]
 ·rcases MR (P:=P) he hg hh m h2 .slice3B w with ⟨rfl,rfl⟩|⟨y,rfl,hy⟩
  ·simp at hmx
  ·rcases MR (P:=P) he hg hl h h1 .slice3C w with ⟨rfl,rfl⟩|⟨z,rfl,hz⟩
   ·simp[hx,hy]
   ·simp[hx,hy,hz]
theorem add_eq (b o n:Nat):(⟨b,o,none⟩:Addr).add n=⟨b,o+n,none⟩:=by
 unfold Addr.add
 split
 ·rename_i h;subst h;rfl
 ·rfl
theorem cr {i:BI} {z off l:Nat}:i.cap z (off+l*z)=i.cap z off-l:=by
 unfold BI.cap
 rw[<-Nat.sub_sub,Nat.mul_comm l z]
 by_cases h:z*l<=i.endc-off
 ·exact Nat.sub_mul_div_of_le (i.endc-off) z l h
 ·have hz:i.endc-off<z*l:=by omega
  rw[Nat.sub_eq_zero_of_le (by omega),Nat.zero_div]
  have:=Nat.div_le_of_le_mul (m:=i.endc-off) (n:=l) (k:=z) (by omega)
  omega
theorem Vw (he:Bn R e a.tmps) (hg:Dp G R) {t el:TypeId} {esz:Nat} (hu:P.underlying t=some (.slice el)) (hs:GF P el=some esz)
  {x:Operand} {lo hi mx:Option Operand} (hmx:mx.isSome=true->hi.isSome=true) {v:V}
  (h:DA esz (CV e (Ak G x)) (DR e (lo.map (Ak G))) (DR e (hi.map (Ak G))) (DR e (mx.map (Ak G)))=some v) (w:World) :
  ∃r,Ar R v=some r/\(Instr.sliceAt t (a.eval x) (lo.map a.eval) (hi.map a.eval) (mx.map a.eval)).run P w = .ok r w:=by
 have hat:∀u,(Instr.sliceAt t u (lo.map a.eval) (hi.map a.eval) (mx.map a.eval)).run P w=(Instr.slice t u (lo.map a.eval) (hi.map a.eval) (mx.map a.eval)).run P w:=fun u=>by
  unfold Instr.sliceAt;simp[run_underlying hu]
 rw[hat]
 have hsl:∀(b:Option Addr) (len cap l hh m:Nat),(Instr.sliceBounds true len cap (lo.map a.eval) (hi.map a.eval) (mx.map a.eval)).run P w = .ok (l,hh,m) w ->
   (Instr.slice t (.slice b len cap) (lo.map a.eval) (hi.map a.eval) (mx.map a.eval)).run P w = .ok (.slice (if m=l then b else b.map (·.add (l*esz))) (hh-l) (m-l)) w:=fun b len cap l hh m hb=>by
  unfold Instr.slice;simp[run_underlying hu,hb,EA hs w]
 cases hx:CV e (Ak G x)with
 | nils=>
  rw[hx]at h
  have hc:=ev (a:=a) he hg hx rfl
  simp only[Ar,AK.injEq]at hc
  rw[<-hc]
  simp only[DA]at h
  cases hm:Hk (DR e (mx.map (Ak G))) 0<;>simp only[hm]at h
  ·cases h
  rename_i m
  cases hh:Hk (DR e (hi.map (Ak G))) 0<;>simp only[hh]at h
  ·cases h
  rename_i h'
  cases hl:Hk (DR e (lo.map (Ak G))) 0<;>simp only[hl]at h
  ·cases h
  rename_i l
  split at h
  ·rename_i hcond
   simp only[AF,Ai,AQ]at hcond
   obtain⟨⟨h1,h2⟩,h3⟩:=hcond
   cases h
   refine⟨_,rfl,?_⟩
   rw[hsl none 0 0 l h' m (GS he hg true hm hh hl h1 h2 (by omega) hmx w)]
   have:m=0:=h3
   have:h'=0:=by omega
   have:l=0:=by omega
   subst_vars;rfl
  ·cases h
 | sl b off len c=>
  rw[hx]at h
  have hc:=ev (a:=a) he hg hx rfl
  obtain⟨i,cap,hi',hev,hex,hop⟩:=C3 hc
  rw[hev]
  cases c with
  | ex c=>
   obtain rfl:=hex c rfl
   simp only[DA]at h
   cases hm:Hk (DR e (mx.map (Ak G))) cap<;>simp only[hm]at h
   ·cases h
   rename_i m
   cases hh:Hk (DR e (hi.map (Ak G))) len<;>simp only[hh]at h
   ·cases h
   rename_i h'
   cases hl:Hk (DR e (lo.map (Ak G))) 0<;>simp only[hl]at h
   ·cases h
   rename_i l
   split at h
   ·rename_i hcond
    simp only[AF,Ai,AQ]at hcond
    obtain⟨⟨h1,h2⟩,h3⟩:=hcond
    have h3:m<=cap:=by
     rw[Bg]at h3
     rcases h3 with h3|h3
     ·cases hq:DR e (mx.map (Ak G))with
      | none=>rw[hq]at hm;cases hm;exact AG _
      | some q=>rw[hq]at h3;cases h3
     ·exact Nat.le_of_ble_eq_true h3
    cases h
    refine⟨_,?_,hsl _ len cap l h' m (GS he hg true hm hh hl h1 h2 h3 hmx w)⟩
    simp only[Ar,hi',Bo]
    by_cases hml:m=l
    ·simp[hml]
    ·have:Ag m l=false:=MT hml
     simp[hml,this,add_eq,Hg]
   ·cases h
  | op z=>
   obtain⟨hcap,hlen⟩:=hop z rfl
   have hbd:=OH hc hi'
   rw[<-hcap]at hbd
   simp only[DA]at h
   cases hh:Hk (DR e (hi.map (Ak G))) len
   ·rw[hh]at h;cases h
   rename_i h'
   cases hl:Hk (DR e (lo.map (Ak G))) 0
   ·rw[hh,hl]at h;cases h
   rename_i l
   rw[hh,hl]at h
   simp only at h
   cases hmo:mx with
   | none=>
    subst hmo
    simp only[al,DR]at h
    split at h
    ·rename_i hcond
     simp only[AF,Ai,AQ]at hcond
     obtain⟨⟨h1,h2⟩,h3⟩:=hcond
     subst h3
     have hb:=GS (a:=a) (P:=P) (cap:=cap) (mx:=none) he hg true (by simp[DR,Hk]) hh hl h1 (AN h2 hlen) (AG _) hmx w
     refine⟨_,?_,hsl _ len cap l h' cap hb⟩
     split at h
     ·rename_i hll
      simp only[AQ]at hll
      have hhl:h'=l:=by omega
      subst hhl
      split at h
      ·rename_i hl0
       simp only[AQ]at hl0
       cases h
       subst hl0
       simp only[Ar,hi',L4,<-hcap,hlen,hbd,and_self,if_true,L5,Nat.zero_mul,Bo,add_eq,L6,ite_self,<-hll,CD]
      ·cases h
       simp only[Ar,hi',L4,<-hcap,eJ,Bo,if_pos (show h'<=cap by omega)]
       by_cases hcl:cap=h'<;>simp[hcl]
     ·rename_i hll
      simp only[AQ]at hll
      cases h
      have hne:cap≠l:=by omega
      simp only[Ar,hi',L4,cr,<-hcap,if_neg hne,Bo,add_eq,Hg,if_pos (show h'-l<=cap-l/\cap-l<=9223372036854775807 by omega)]
    ·cases h
   | some mo=>
    subst hmo
    cases hm:Hk (DR e ((some mo).map (Ak G))) 0<;>simp only[Bo,DR]at h hm<;>simp only[hm]at h
    ·cases h
    rename_i m
    split at h
    ·rename_i hcond
     simp only[AF,Ai,AQ]at hcond
     obtain⟨⟨h1,h2⟩,h3⟩:=hcond
     cases h
     have hm':Hk (DR e ((some mo).map (Ak G))) cap=some m:=by
      simp only[Bo,DR]
      rw[Y5 _ cap 0];exact hm
     refine⟨_,?_,hsl _ len cap l h' m (GS he hg true hm' hh hl h1 h2 (by omega) hmx w)⟩
     simp only[Ar,hi',Bo]
     by_cases hml:m=l
     ·simp[hml]
     ·have:Ag m l=false:=MT hml
      simp[hml,this,add_eq,Hg]
    ·cases h
 | sle b off k z=>
  rw[hx]at h
  have hc:=ev (a:=a) he hg hx rfl
  obtain⟨i,hi',hk,hev⟩:=ER hc
  simp only[DA]at h
  cases hh:Hk (DR e (hi.map (Ak G))) 0
  ·rw[hh]at h;cases h
  rename_i h'
  cases hl:Hk (DR e (lo.map (Ak G))) 0
  ·rw[hh,hl]at h;cases h
  rename_i l
  rw[hh,hl]at h
  cases hmo:mx with
  | some mo=>subst hmo;simp only[Bo,DR]at h;cases h
  | none=>
   subst hmo
   simp only[al,DR]at h
   split at h
   ·rename_i hcond
    simp only[AF,AQ]at hcond
    obtain⟨rfl,rfl⟩:=hcond
    cases h
    refine⟨_,hc,?_⟩
    rw[hev]
    have hb:=GS (a:=a) (P:=P) (len:=0) (cap:=i.cap z off-k) (m:=i.cap z off-k) (mx:=none) he hg true (by simp[DR,Hk]) hh hl (AG 0) (CD _) (AG _) hmx w
    rw[hsl _ 0 _ 0 0 _ hb]
    simp only[Nat.zero_mul,L5,Bo]
    split<;>split<;>simp[Addr.add]
   ·cases h
 | _=>rw[hx]at h;simp only[DA]at h;cases h
end Go.Og
namespace Go.Og
variable {P:Program} {G:Nat->Bool} {R:Ren} {e:Bt} {a:Act}
theorem Qz (he:Bn R e a.tmps) (hg:Dp G R) {t el:TypeId} {n esz:Nat} (hu:P.underlying t=some (.array n el)) (hs:GF P el=some esz)
  {x:Operand} {lo hi mx:Option Operand} (hmx:mx.isSome=true->hi.isSome=true) {v:V}
  (h:IN n esz (CV e (Ak G x)) (DR e (lo.map (Ak G))) (DR e (hi.map (Ak G))) (DR e (mx.map (Ak G)))=some v) (w:World) :
  ∃r,Ar R v=some r/\(Instr.sliceAt t (a.eval x) (lo.map a.eval) (hi.map a.eval) (mx.map a.eval)).run P w = .ok r w:=by
 cases hx:CV e (Ak G x)with
 | ptr b off=>
  rw[hx]at h
  obtain⟨i,hi',hev⟩:=IG (a:=a) he hg hx
  simp only[IN]at h
  cases hm:Hk (DR e (mx.map (Ak G))) n
  ·rw[hm]at h;cases h
  rename_i m
  cases hh:Hk (DR e (hi.map (Ak G))) n
  ·rw[hm,hh]at h;cases h
  rename_i h'
  cases hl:Hk (DR e (lo.map (Ak G))) 0
  ·rw[hm,hh,hl]at h;cases h
  rename_i l
  rw[hm,hh,hl]at h
  simp only at h
  split at h
  ·rename_i hcond
   simp only[AF,Ai,AQ]at hcond
   obtain⟨⟨h1,h2⟩,h3⟩:=hcond
   cases h
   have hb:=GS (P:=P) (a:=a) he hg false hm hh hl h1 h2 h3 hmx w
   refine⟨.slice (some (if m=l then⟨i.blk,i.shift+off,none⟩else(⟨i.blk,i.shift+off,none⟩:Addr).add (l*esz))) (h'-l) (m-l),?_,?_⟩
   ·simp only[Ar,hi',Bo]
    by_cases hml:m=l
    ·simp[hml]
    ·have:Ag m l=false:=MT hml
     simp[hml,this,add_eq,Hg]
   ·rw[hev]
    unfold Instr.sliceAt
    simp[run_underlying hu,Instr.sureAddr,hb,EA hs w]
  ·cases h
 | _=>rw[hx]at h;simp only[IN]at h;cases h
theorem Qy (he:Bn R e a.tmps) (hg:Dp G R) {t:TypeId} (hu:P.underlying t=some .string)
  {x:Operand} {lo hi:Option Operand} {v:V}
  (h:IM (CV e (Ak G x)) (DR e (lo.map (Ak G))) (DR e (hi.map (Ak G)))=some v) (w:World) :
  ∃r,Ar R v=some r/\(Instr.sliceAt t (a.eval x) (lo.map a.eval) (hi.map a.eval) none).run P w = .ok r w:=by
 cases hx:CV e (Ak G x)with
 | str s=>
  rw[hx]at h
  have hev:=Kx (a:=a) he hg hx
  simp only[IM]at h
  cases hh:Hk (DR e (hi.map (Ak G))) s.len
  ·rw[hh]at h;cases h
  rename_i h'
  cases hl:Hk (DR e (lo.map (Ak G))) 0
  ·rw[hh,hl]at h;cases h
  rename_i l
  rw[hh,hl]at h
  simp only at h
  split at h
  ·rename_i hcond
   simp only[AF,Ai,AQ]at hcond
   obtain⟨h1,h2⟩:=hcond
   cases h
   have hsz:(ByteArray.mk s.toList.toArray).size=s.len:=by simp[ByteArray.size,BS.length_toList]
   have hb:=GS (P:=P) (a:=a) (mx:=none) (cap:=s.len) (m:=s.len) he hg false (by simp[DR,Hk]) hh hl h1 h2 (AG _) (fun e=>by cases e) w
   refine⟨_,rfl,?_⟩
   rw[hev]
   unfold Instr.sliceAt Instr.slice
   simp only[al]at hb
   simp only[Sem.run_bind,run_underlying hu,Result.andThen_ok,Option.isSome_none,Cd,if_false,hsz,hb,Sem.run_pure]
   congr 2
   rw[BS.toList_sub h2]
   apply ByteArray.ext
   rw[ByteArray.data_extract]
   apply GV
   simp[nM]
  ·cases h
 | _=>rw[hx]at h;simp only[IM]at h;cases h
theorem C4 {b off:Nat} {i:BI} (h:R b=some i):Ar R (.ptr b off)=some (.pointer (some ⟨i.blk,i.shift+off,none⟩)):=by simp only[Ar,h,Bo]
theorem Ty {f:FuncId} {l m:List V} {y z:List Value} (h:Az R l=some y) (k:Az R m=some z):Ar R (.fn f l m)=some (.func (.func f) y.toArray z.toArray):=by simp only[Ar,h,k]
theorem Ug:∀(l:List Operand) (x:V) (u:Value) {k:IntKind} {n:Int} (_:Bn R e a.tmps) (_:Dp G R) (_:Ar R x=some u) (_:∃k n,x = .int k n)
  (_:SI x (Fe e (l.map (Ak G)))=some (.int k n)) (w:World),((l.map a.eval).foldlM (m:=Sem) Builtin.min2 u).run P w = .ok (.int k n) w
 | [],x,u,k,n,_,_,hu,_,h,w=>by
  simp only[Fe,L7,SI,AK.injEq]at h
  subst h;cases hu;rfl
 | o::l,x,u,k,n,he,hg,hu,⟨k1,n1,hx⟩,h,w=>by
  subst hx
  simp only[Fe,B3]at h
  unfold SI at h
  split at h
  ·rename_i heq;cases heq
  ·rename_i heq1 heq
   cases heq1
   rename_i k2 n2 l2 _
   simp only[List.cons.injEq]at heq
   obtain⟨ho,hl⟩:=heq
   split at h
   ·rename_i hk
    subst hk
    subst hl
    cases hu
    rw[B3,List.foldlM_cons,Fq he hg ho]
    simp only[Builtin.min2,Sem.run_bind,Sem.run_pure,Result.andThen_ok]
    exact Ug l _ _ he hg rfl ⟨_,_,rfl⟩ h w
   ·cases h
  ·cases h
theorem Uh:∀(l:List Operand) (x:V) (u:Value) {k:IntKind} {n:Int} (_:Bn R e a.tmps) (_:Dp G R) (_:Ar R x=some u) (_:∃k n,x = .int k n)
  (_:SJ x (Fe e (l.map (Ak G)))=some (.int k n)) (w:World),((l.map a.eval).foldlM (m:=Sem) Builtin.max2 u).run P w = .ok (.int k n) w
 | [],x,u,k,n,_,_,hu,_,h,w=>by
  simp only[Fe,L7,SJ,AK.injEq]at h
  subst h;cases hu;rfl
 | o::l,x,u,k,n,he,hg,hu,⟨k1,n1,hx⟩,h,w=>by
  subst hx
  simp only[Fe,B3]at h
  unfold SJ at h
  split at h
  ·rename_i heq;cases heq
  ·rename_i heq1 heq
   cases heq1
   rename_i k2 n2 l2 _
   simp only[List.cons.injEq]at heq
   obtain⟨ho,hl⟩:=heq
   split at h
   ·rename_i hk
    subst hk
    subst hl
    cases hu
    rw[B3,List.foldlM_cons,Fq he hg ho]
    simp only[Builtin.max2,Sem.run_bind,Sem.run_pure,Result.andThen_ok]
    exact Uh l _ _ he hg rfl ⟨_,_,rfl⟩ h w
   ·cases h
  ·cases h
theorem Uc {t:TypeId} {s:Option Nat} (hs:GW P t=some s) {l:List V} {x:List Value} (hx:Az R l=some x) {off:Nat} {v:V}
  (h:Kw l off s=some v) (w:World) :
  ∃r,Ar R v=some r/\(part t x.toArray off).run P w = .ok r w:=by
 obtain⟨h1,h2⟩:=J3 (P:=P) hs w
 cases s with
 | none=>
  obtain⟨r,hr,hk⟩:=EE hx h
  refine⟨r,hr,?_⟩
  unfold part
  simp[h1,hk]
 | some n=>
  simp only[Kw]at h
  split at h
  ·cases h
   refine⟨_,DX (OG (Tx hx off) n),?_⟩
   unfold part
   simp only[Sem.run_bind,h1,Result.andThen_ok,Option.isSome_some,if_true,h2 n rfl,Sem.run_pure]
   congr 2
   apply GV
   simp[nM]
  ·cases h
theorem Y0 (he:Bn R e a.tmps) (hg:Dp G R) (b:Builtin) (ts:Array TypeId) (ty:TypeId) (lits:Array Bool) (args:Array Operand) {v:V}
  (h:BU (KM P G b ts args) e=some v) (w:World):∃x,Ar R v=some x/\(builtin b ts ty lits (args.map a.eval)).run P w = .ok (.value x) w:=by
 have val:∀{s:Sem Value} {x:Value},s.run P w = .ok x w->(do pure (Next.value (<-s)):Sem Next).run P w = .ok (.value x) w:=fun hs=>by simp[hs]
 obtain⟨ts⟩:=ts
 obtain⟨args⟩:=args
 unfold KM at h
 split at h
 ·
  rename_i t x hts has
  simp only at hts has
  subst hts has
  split at h
  ·rename_i hu
   simp only[BU]at h
   split at h
   ·rename_i s hx;cases h
    refine⟨_,rfl,?_⟩
    simp only[builtin]
    have hsz:(ByteArray.mk s.toList.toArray).size=s.len:=by simp[ByteArray.size,BS.length_toList]
    exact val (by rw[show jO a.eval ⟨[x]⟩=#[a.eval x] from by simp];rw[Kx (a:=a) he hg hx];unfold Builtin.len_;simp[run_underlying hu,goInt,hsz])
   ·cases h
  ·rename_i el hu
   simp only[BU]at h
   split at h
   ·rename_i hx;cases h
    have hc:=ev (a:=a) he hg hx rfl
    simp only[Ar,AK.injEq]at hc
    refine⟨_,rfl,?_⟩
    simp only[builtin]
    exact val (by rw[show jO a.eval ⟨[x]⟩=#[a.eval x] from by simp];rw[<-hc];unfold Builtin.len_;simp[run_underlying hu,goInt])
   ·rename_i b off n c hx;cases h
    obtain⟨i,m,_,hev,_⟩:=C3 (ev (a:=a) he hg hx rfl)
    refine⟨_,rfl,?_⟩
    simp only[builtin]
    exact val (by unfold Builtin.len_;simp[run_underlying hu,hev,goInt])
   ·rename_i b off n c hx;cases h
    obtain⟨i,_,_,hev⟩:=ER (ev (a:=a) he hg hx rfl)
    refine⟨_,rfl,?_⟩
    simp only[builtin]
    exact val (by unfold Builtin.len_;simp[run_underlying hu,hev,goInt])
   ·cases h
  ·rename_i n el hu
   simp only[BU,AK.injEq]at h
   subst h
   refine⟨_,rfl,?_⟩
   simp only[builtin]
   exact val (by unfold Builtin.len_;simp[run_underlying hu,goInt])
  ·rename_i el hu
   split at h
   ·rename_i n el' hu'
    simp only[BU,AK.injEq]at h
    subst h
    refine⟨_,rfl,?_⟩
    simp only[builtin]
    exact val (by unfold Builtin.len_;simp[run_underlying hu,run_underlying hu',goInt])
   ·cases h
  ·cases h
 ·
  rename_i t x hts has
  simp only at hts has
  subst hts has
  split at h
  ·rename_i el hu
   simp only[BU]at h
   split at h
   ·rename_i hx;cases h
    have hc:=ev (a:=a) he hg hx rfl
    simp only[Ar,AK.injEq]at hc
    refine⟨_,rfl,?_⟩
    simp only[builtin]
    exact val (by rw[show jO a.eval ⟨[x]⟩=#[a.eval x] from by simp];rw[<-hc];unfold Builtin.cap_;simp[run_underlying hu,goInt])
   ·rename_i b off n c hx;cases h
    obtain⟨i,m,_,hev,hex,_⟩:=C3 (ev (a:=a) he hg hx rfl)
    obtain rfl:=hex _ rfl
    refine⟨_,rfl,?_⟩
    simp only[builtin]
    exact val (by unfold Builtin.cap_;simp[run_underlying hu,hev,goInt])
   ·cases h
  ·cases h
 ·
  split at h
  ·split at h
   ·split at h
    ·have hno:∀(q:Bool) (e1:TypeId) (n m:Nat) (x y:AO),BU (if q=true then EK.bad else EK.append e1 n m x y) e≠some v:=by
      intro q e1 n m x y;cases q<;>simp[BU]
     exact(hno _ _ _ _ _ _ h).elim
    ·cases h
   ·cases h
  ·cases h
 ·
  split at h
  ·split at h
   ·simp only[BU]at h;cases h
   ·cases h
  ·cases h
 ·
  rename_i x l has
  simp only at has
  subst has
  simp only[BU]at h
  split at h
  ·rename_i k n hm;cases h
   refine⟨_,rfl,?_⟩
   simp only[builtin]
   refine val ?_
   have hx:∃k n,CV e (Ak G x) = .int k n:=by
    cases l with
    | nil=>simp only[Fe,L7,SI,AK.injEq]at hm;exact⟨k,n,hm⟩
    | cons y l=>
     simp only[Fe,B3]at hm
     unfold SI at hm
     split at hm
     ·rename_i heq;cases heq
     ·rename_i heq _;exact⟨_,_,heq⟩
     ·cases hm
   obtain⟨k1,n1,hx1⟩:=hx
   have:=Ug (P:=P) l _ _ he hg (ev (a:=a) he hg hx1 rfl) ⟨k1,n1,rfl⟩ (hx1 ▸ hm) w
   simpa[Builtin.min_]using this
  ·cases h
 ·
  rename_i x l has
  simp only at has
  subst has
  simp only[BU]at h
  split at h
  ·rename_i k n hm;cases h
   refine⟨_,rfl,?_⟩
   simp only[builtin]
   refine val ?_
   have hx:∃k n,CV e (Ak G x) = .int k n:=by
    cases l with
    | nil=>simp only[Fe,L7,SJ,AK.injEq]at hm;exact⟨k,n,hm⟩
    | cons y l=>
     simp only[Fe,B3]at hm
     unfold SJ at hm
     split at hm
     ·rename_i heq;cases heq
     ·rename_i heq _;exact⟨_,_,heq⟩
     ·cases hm
   obtain⟨k1,n1,hx1⟩:=hx
   have:=Uh (P:=P) l _ _ he hg (ev (a:=a) he hg hx1 rfl) ⟨k1,n1,rfl⟩ (hx1 ▸ hm) w
   simpa[Builtin.max_]using this
  ·cases h
 ·cases h
theorem Ls (he:Bn R e a.tmps) (hg:Dp G R) (o:Oper) {v:V} (h:BU (Ac P G o.op) e=some v) (w:World) :
  ∃x,Ar R v=some x/\(execOp a.eval o).run P w = .ok (.value x) w:=by
 have val:∀{s:Sem Value} {x:Value},s.run P w = .ok x w->(do pure (Next.value (<-s)):Sem Next).run P w = .ok (.value x) w:=fun hs=>by simp[hs]
 obtain⟨dst,op,ty,pos,after,guard⟩:=o
 simp only at h
 cases op with
 | move x=>
  simp only[Ac,BU]at h
  split at h
  ·rename_i hl;cases h
   exact⟨_,ev he hg rfl hl,rfl⟩
  ·cases h
 | assign x=>
  simp only[Ac,BU]at h
  split at h
  ·rename_i hl;cases h
   exact⟨_,ev he hg rfl hl,rfl⟩
  ·cases h
 | pick c x y=>
  simp only[Ac,BU]at h
  split at h
  ·rename_i hc
   split at h
   ·rename_i hl;cases h
    exact⟨_,ev he hg rfl hl,by simp[execOp,KB (a:=a) he hg hc,asBool]⟩
   ·cases h
  ·rename_i hc
   split at h
   ·rename_i hl;cases h
    exact⟨_,ev he hg rfl hl,by simp[execOp,KB (a:=a) he hg hc,asBool]⟩
   ·cases h
  ·cases h
 | build t ps=>
  simp only[Ac]at h
  have hmap:∀(q:Array (Nat × Operand)),(q.map (fun(x:Nat × Operand)=>(x.1,a.eval x.2))).toList=q.toList.map (fun(x:Nat × Operand)=>(x.1,a.eval x.2)):=fun q=>Array.toList_map
  split at h
  ·rename_i fs z hu hz
   cases hp:Kl P fs.toList with
   | none=>rw[hp]at h;cases h
   | some pl=>
    rw[hp]at h
    simp only at h
    cases hc:EG G (pl[·]?) ps.toList with
    | none=>rw[hc]at h;cases h
    | some l=>
     rw[hc]at h
     simp only[BU]at h
     cases hf:Hq (JY e l) z with
     | none=>rw[hf]at h;cases h
     | some r=>
      rw[hf]at h;cases h
      obtain⟨zv,hzr,hzc⟩:=GJ (P:=P) (R:=R) hz w
      obtain⟨out,h1,h2,_⟩:=NJ (a:=a) he hg ps.toList l z r zv.cells hc hzc hf
      refine⟨_,DX h2,val ?_⟩
      unfold Instr.build
      simp only[Sem.run_bind,hzr,Result.andThen_ok,run_underlying hu,MC,Sem.run_map,Pt w hp,Sem.run_pure,hmap]
      have:(fun(x:Nat)=>(pl.toArray)[x]?)=(fun x=>pl[x]?):=by funext x;simp
      simp only[this,h1,Sem.run_pure,Array.toArray_toList]
  ·rename_i n el z hu hz
   cases hp:GF P el with
   | none=>rw[hp]at h;cases h
   | some s=>
    rw[hp]at h
    simp only at h
    cases hc:EG G (fun i=>some (i*s,s)) ps.toList with
    | none=>rw[hc]at h;cases h
    | some l=>
     rw[hc]at h
     simp only[BU]at h
     cases hf:Hq (JY e l) z with
     | none=>rw[hf]at h;cases h
     | some r=>
      rw[hf]at h;cases h
      obtain⟨zv,hzr,hzc⟩:=GJ (P:=P) (R:=R) hz w
      obtain⟨out,h1,h2,_⟩:=NJ (a:=a) he hg ps.toList l z r zv.cells hc hzc hf
      refine⟨_,DX h2,val ?_⟩
      unfold Instr.build
      simp only[Sem.run_bind,hzr,Result.andThen_ok,run_underlying hu,EA hp w,hmap,h1,Sem.run_pure,Array.toArray_toList]
  ·cases h
 | nilCheck x=>
  simp only[Ac,BU]at h
  split at h
  ·rename_i b off hx
   cases h
   obtain⟨i,hi,hev⟩:=IG (a:=a) he hg hx
   refine⟨_,C4 hi,?_⟩
   simp[execOp,hev]
  ·cases h
 | binOp op t x y t'=>
  simp only[Ac,BU]at h
  obtain⟨r,hr,hrun⟩:=cv (a:=a) (P:=P) he hg h w
  exact⟨r,hr,val hrun⟩
 | unOp op t x=>
  simp only[Ac,BU]at h
  unfold wB at h
  split at h
  ·rename_i k n hx;cases h
   refine⟨_,rfl,val ?_⟩
   rw[Fq he hg hx];rfl
  ·rename_i k n hx;cases h
   refine⟨_,rfl,val ?_⟩
   rw[Fq he hg hx];rfl
  ·rename_i b hx;cases h
   refine⟨_,rfl,val ?_⟩
   rw[KB he hg hx];rfl
  ·cases h
 | convert s d x=>
  simp only[Ac]at h
  unfold cm at h
  split at h
  ·rename_i ds k hs hd
   simp only[BU]at h
   split at h
   ·rename_i k' n hx;cases h
    refine⟨_,rfl,val ?_⟩
    rw[Fq he hg hx]
    simp[convert,run_underlying hs,run_underlying hd,Conv.intToInt]
   ·cases h
  ·rename_i hs hd
   simp only[BU]at h
   split at h
   ·rename_i l hx;cases h
    refine⟨_,rfl,val ?_⟩
    rw[Kx he hg hx]
    simp[convert,run_underlying hs,run_underlying hd]
   ·cases h
  ·split at h<;>(simp only[BU]at h;cases h)
  ·split at h<;>(simp only[BU]at h;cases h)
  ·simp only[BU]at h;cases h
 | makeInterface t x=>
  simp only[Ac]at h
  split at h
  ·cases h
  ·rename_i d hni hu
   simp only[BU]at h
   split at h
   ·rename_i hl;cases h
    have hc:=ev (a:=a) he hg rfl hl
    refine⟨.iface t (a.eval x),by simp only[Ar,hc],val ?_⟩
    unfold Instr.makeInterface
    rw[Sem.run_bind,run_underlying hu,Result.andThen_ok]
    split
    ·rename_i m;exact(hni m rfl).elim
    ·rfl
   ·cases h
  ·cases h
 | makeFunc fn f c=>
  cases fn with
  | func f'=>
   simp only[Ac,BU]at h
   split at h
   ·rename_i hl
    simp only[AF]at hl
    cases h
    have h1:=qO (a:=a) he hg f.toList hl.1
    have h2:=qO (a:=a) he hg c.toList hl.2
    refine⟨_,Ty h1 h2,val ?_⟩
    have e1:∀q:Array Operand,jO a.eval q=(List.map a.eval q.toList).toArray:=fun q=>by apply GV;simp
    simp[Instr.makeFunc,e1]
   ·cases h
  | _=>simp only[Ac,BU]at h;cases h
 | slice t x lo hi mx=>
  simp only[Ac]at h
  split at h
  ·cases h
  ·rename_i hmx
   have hmx':mx.isSome=true->hi.isSome=true:=by
    intro hm;cases hh:hi.isSome<;>simp_all
   split at h
   ·rename_i hu
    split at h
    ·obtain⟨r,hr,hrun⟩:=Qy (a:=a) (P:=P) he hg hu h w
     exact⟨r,hr,val hrun⟩
    ·cases h
   ·rename_i el hu
    cases hs:GF P el with
    | none=>rw[hs]at h;cases h
    | some s=>
     rw[hs]at h
     obtain⟨r,hr,hrun⟩:=Vw (a:=a) (P:=P) he hg hu hs hmx' h w
     exact⟨r,hr,val hrun⟩
   ·rename_i n el hu
    cases hs:GF P el with
    | none=>rw[hs]at h;cases h
    | some s=>
     rw[hs]at h
     obtain⟨r,hr,hrun⟩:=Qz (a:=a) (P:=P) he hg hu hs hmx' h w
     exact⟨r,hr,val hrun⟩
   ·cases h
 | fieldAddr s x f=>
  simp only[Ac]at h
  split at h
  ·rename_i fs hu
   split at h
   ·rename_i fd hf
    split at h
    ·split at h<;>(simp only[BU]at h;cases h)
    ·rename_i n hn hs
     simp only[BU]at h
     split at h
     ·rename_i b off hx;cases h
      obtain⟨i,hi,hev⟩:=IG (a:=a) he hg hx
      refine⟨_,C4 hi,val ?_⟩
      unfold Instr.fieldAt fieldPlace
      have hn':n≠0:=fun e=>hn (e ▸ rfl)
      simp[run_underlying hu,hf,Instr.sureAddr,hev,EA hs w,hn',add_eq,Hg]
     ·cases h
    ·cases h
   ·cases h
  ·cases h
 | field s x f=>
  simp only[Ac]at h
  split at h
  ·rename_i fs hu
   split at h
   ·rename_i fd hf
    split at h
    ·rename_i n hs
     cases hx:CV e (Ak G x)with
     | agg l=>
      obtain⟨y,hy,hev⟩:=RF (a:=a) he hg hx
      have h':Kw l fd.offset n=some v:=by
       cases n<;>simpa only [BU,hx,Kw]using h
      obtain⟨r,hr,hrun⟩:=Uc hs hy h' w
      refine⟨r,hr,val ?_⟩
      unfold Instr.field
      simp[run_underlying hu,hf,asAgg,hev,hrun]
     | _=>cases n<;>(simp only[BU,hx]at h;cases h)
    ·cases h
   ·cases h
  ·cases h
 | indexAddr t x i=>
  simp only[Ac]at h
  split at h
  ·rename_i el hu
   split at h
   ·rename_i s hs
    simp only[BU]at h
    split at h
    ·rename_i b off len c k n hx hi
     split at h
     ·rename_i hb;cases h
      have hc:=ev (a:=a) he hg hx rfl
      obtain⟨j,m,hj,hev,_⟩:=C3 hc
      refine⟨_,C4 hj,val ?_⟩
      unfold Instr.indexAt
      simp[asIntOf,Fq (a:=a) he hg hi,run_underlying hu,hev,hb,EA hs w,add_eq,Hg]
     ·cases h
    ·cases h
   ·cases h
  ·rename_i len el hu
   split at h
   ·rename_i s hs
    simp only[BU]at h
    split at h
    ·rename_i b off k n hx hi
     split at h
     ·rename_i hb;cases h
      obtain⟨j,hj,hev⟩:=IG (a:=a) he hg hx
      refine⟨_,C4 hj,val ?_⟩
      unfold Instr.indexAt
      simp[asIntOf,Fq (a:=a) he hg hi,run_underlying hu,hev,Instr.sureAddr,hb,EA hs w,add_eq,Hg]
     ·cases h
    ·cases h
   ·cases h
  ·cases h
 | index t x i=>
  simp only[Ac]at h
  split at h
  ·rename_i hu
   simp only[BU]at h
   split at h
   ·rename_i s k n hx hi
    split at h
    ·rename_i h0
     split at h
     ·rename_i hc;cases h
      simp only[CK]at hc
      refine⟨_,rfl,val ?_⟩
      unfold Instr.index
      have hb:(ByteArray.mk s.toList.toArray)[n.toNat]? = some (UInt8.ofNat (s.get n.toNat)):=by
       have hlt:n.toNat<s.toList.length:=by rw[BS.length_toList];exact hc
       have hsz:(ByteArray.mk s.toList.toArray).size=s.toList.length:=by simp[ByteArray.size]
       have hcc:=BS.getElem?_toList s n.toNat
       rw[if_pos hc]at hcc
       rw[getElem?_pos (ByteArray.mk s.toList.toArray) n.toNat (by omega)]
       rw[AY hlt]at hcc
       simp only[AK.injEq]at hcc ⊢
       rw[<-hcc]
       rfl
      have hgl:s.get n.toNat % 256=s.get n.toNat:=Ew (s.get_lt _)
      simp[asIntOf,Fq (a:=a) he hg hi,run_underlying hu,Kx (a:=a) he hg hx,h0,hb,hgl]
     ·cases h
    ·cases h
   ·cases h
  ·rename_i n el hu
   split at h
   ·rename_i z s hz hs
    simp only[BU]at h
    split at h
    ·rename_i l k m hx hi
     split at h
     ·rename_i hc
      obtain⟨y,hy,hev⟩:=RF (a:=a) he hg hx
      obtain⟨r,hr,hrun⟩:=Uc hs hy h w
      refine⟨r,hr,val ?_⟩
      unfold Instr.index
      simp[asIntOf,Fq (a:=a) he hg hi,run_underlying hu,hev,hc,EA hz w,hrun]
     ·cases h
    ·cases h
   ·simp only[BU]at h;cases h
  ·simp only[BU]at h;cases h
 | extract x i=>
  simp only[Ac,BU]at h
  split at h
  ·rename_i l hx
   obtain⟨y,hy,hev⟩:=kQ (a:=a) he hg hx
   obtain⟨r,hr,hk⟩:=EE hy h
   refine⟨r,hr,val ?_⟩
   unfold Instr.extract
   rw[hev]
   simp[hk]
  ·cases h
 | call c=>
  obtain⟨callee,args,argTypes⟩:=c
  cases callee with
  | value f=>cases f<;>(simp only[Ac,BU]at h;cases h)
  | invoke r m=>simp only[Ac,BU]at h;cases h
  | builtin b=>
   simp only[Ac]at h
   obtain⟨r,hr,hrun⟩:=Y0 (a:=a) (P:=P) he hg b argTypes ty (args.map fun|.const _=>true|_=>false) args h w
   refine⟨r,hr,?_⟩
   simp only[execOp,resolve,Sem.run_bind,Sem.run_pure,Result.andThen_ok,invoke]
   exact hrun
 | buildSlice t n ps=>simp only[Ac]at h;(repeat' split at h)<;>(simp only[BU]at h;cases h)
 | makeSlice t l c=>simp only[Ac]at h;(repeat' split at h)<;>(simp only[BU]at h;cases h)
 | alloc t=>simp only[Ac]at h;(repeat' split at h)<;>(simp only[BU]at h;cases h)
 | load t x=>
  simp only[Ac]at h
  split at h
  ·rename_i hs
   simp only[BU]at h
   split at h
   ·rename_i b off hx
    simp only[AK.injEq]at h;subst h
    obtain⟨i,hi,hev⟩:=IG (a:=a) he hg hx
    obtain⟨h1,h2⟩:=J3 (P:=P) hs w
    refine⟨_,DX (x:=[]) rfl,val ?_⟩
    unfold Instr.loadAt loadVar
    have h0:∀b:Addr,(loadCells b 0).run P w = .ok #[] w:=fun b=>rfl
    simp[Instr.sureAddr,hev,h1,h2 0 rfl,h0]
   ·cases h
  ·simp only[BU]at h;cases h
  ·simp only[BU]at h;cases h
 | store t x y=>simp only[Ac]at h;(repeat' split at h)<;>(simp only[BU]at h;cases h)
 | box t x=>simp only[Ac]at h;(repeat' split at h)<;>(simp only[BU]at h;cases h)
 | makeMap t r=>cases r<;>(simp only[Ac,BU]at h;cases h)
 | lookup t x y ok=>cases ok<;>simp only[Ac]at h<;>first | (simp only[BU]at h;cases h;done) | ((repeat' split at h)<;>(simp only[BU]at h;cases h))
 | mapUpdate t x y z=>simp only[Ac]at h;(repeat' split at h)<;>(simp only[BU]at h;cases h)
 | _=>simp only[Ac,BU]at h;cases h
end Go.Og
namespace Go.Og
variable {P:Program} {G:Nat->Bool} {R:Ren} {e:Bt} {a:Act} {C:Cx} {Z:H} {w:World}
theorem DL.globOk (h:DL C R Z w):Dp C.G R:=h.glob
theorem NM {b k:Nat} {arr:Array Value} {el:TypeId} {fr:Nat × Nat} (h:w.heap[b]? = some (.cells arr el fr)):w.cell? ⟨b,k,none⟩=arr[k]? := by
 simp[World.cell?,h]
theorem Hd.cells {l:List V} {s off n:Nat} {arr:Array Value} (h:Hd R s l arr) (hn:off+n<=l.length) :
  ∃xs,Az R ((l.drop off).take n)=some xs/\(∀x∈xs,x.oneCell'=true)/\∀j v,xs[j]? = some v->arr[s+off+j]? = some v:=by
 induction n generalizing off with
 | zero=>exact⟨[],by simp[Az],by simp,by simp⟩
 | succ n ih=>
  obtain⟨xs,h1,h2,h3⟩:=ih (off:=off+1) (by omega)
  have hlt:off<l.length:=by omega
  obtain⟨x,hx,hone,hax⟩:=h off l[off] (AY hlt)
  refine⟨x::xs,?_,?_,?_⟩
  ·rw[MA hlt,List.take_succ_cons]
   exact BM.2 ⟨x,xs,hx,h1,rfl⟩
  ·intro y hy
   rcases BF.1 hy with rfl|hy
   ·exact hone
   ·exact h2 y hy
  ·intro j v hj
   cases j with
   | zero=>simp at hj;subst hj;simpa using hax
   | succ j=>simp at hj;have:=h3 j v hj;rw[show s+off+(j+1)=s+(off+1)+j by omega];exact this
theorem DL.readN (h:DL C R Z w) {id off n:Nat} {l:List V} (hl:PM C.E Z id off n=some l) :
  ∃i xs,R id=some i/\Az R l=some xs/\(∀x∈xs,x.oneCell'=true)/\xs.length=n/\l.length=n/\∀j v,xs[j]? = some v->w.cell? ((⟨i.blk,i.shift+off,none⟩:Addr).add j)=some v:=by
 unfold PM at hl
 cases hr:rd C.E Z id with
 | none=>rw[hr]at hl;cases hl
 | some m=>
  rw[hr]at hl
  simp only at hl
  split at hl
  ·rename_i hb
   simp only[Ai]at hb
   cases hl
   obtain⟨i,arr,el,fr,hi,hblk,hold⟩:=h.read hr
   obtain⟨xs,h1,h2,h3⟩:=hold.cells hb
   have hlen:((m.drop off).take n).length=n:=by simp;omega
   refine⟨i,xs,hi,h1,h2,by rw[Ba h1,hlen],hlen,fun j v hj=>?_⟩
   rw[add_eq,NM hblk]
   exact h3 j v hj
  ·cases hl
theorem OM:∀{l:List V} {s:List UInt8} {xs:List Value},FN l=some s->Az R l=some xs ->
  ∃ns:List Int,xs=ns.map (Value.int .u8)/\s=ns.map fun n=>UInt8.ofNat n.toNat
 | [],s,xs,h,hc=>by
  simp only[FN,AK.injEq]at h;subst h
  simp only[Az,AK.injEq]at hc;subst hc
  exact⟨[],rfl,rfl⟩
 | v::l,s,xs,h,hc=>by
  unfold FN at h
  split at h
  ·rename_i heq;cases heq
  ·rename_i n l' heq
   cases heq
   simp only[Ao]at h
   obtain⟨r,hr,rfl⟩:=h
   obtain⟨x,ys,hx,hy,rfl⟩:=BM.1 hc
   cases hx
   obtain⟨ns,h1,h2⟩:=OM hr hy
   exact⟨n::ns,by rw[h1];rfl,by rw[h2];rfl⟩
  ·cases h
theorem MK {t:TypeId} {l:List (Nat × FK)} (h:PR P t = .flat l):∃fs:Array Field,P.underlying t=some (.struct fs)/\P.stoodInHeld t=false/\Gy P fs.toList=some l:=by
 unfold PR at h
 split at h
 ·rename_i fs hu
  refine⟨fs,hu,?_⟩
  unfold FI at h
  cases hs:(P.stoodInHeld t || P.eqGuardType P.depth t)with
  | true=>rw[hs]at h;cases h
  | false=>
   rw[hs]at h
   simp only[BN]at hs
   cases hf:Gy P fs.toList with
   | none=>rw[hf]at h;cases h
   | some l'=>
    rw[hf]at h
    simp only[Fg.flat.injEq]at h;subst h
    exact⟨hs.1,rfl⟩
 ·cases h
theorem MP {tg:Fg} {x y:V} {b:Bool} (h:nT tg x y=some b):∃l xs ys,tg = .flat l/\x = .agg xs/\y = .agg ys/\Gz l xs ys=some b:=by
 unfold nT at h
 split at h
 ·exact⟨_,_,_,rfl,rfl,rfl,h⟩
 ·cases h
theorem kR {t:TypeId} {x y:V} {b:Bool} (h:nT (PR P t) x y=some b) {u v:Value} (hu:Ar R x=some u) (hv:Ar R y=some v) (w:World) :
  (Op.equal t u v).run P w = .ok b w:=by
 obtain⟨l,xs,ys,htg,rfl,rfl,he⟩:=MP h
 obtain⟨fs,hut,hs,hfl⟩:=MK htg
 obtain⟨X,hX,rfl⟩:=Ha hu
 obtain⟨Y,hY,rfl⟩:=Ha hv
 have hfo:P.fieldsOf t=fs:=by simp[Program.fieldsOf,hut]
 show (Op.equalIn 10000 t (.agg X.toArray) (.agg Y.toArray)).run P w = .ok b w
 rw[run_equalIn_agg w 9999 t _ _ (by rw[hfo];exact hut) hs,hfo]
 exact KC hX hY 9998 w hfl he
theorem Yh {t:TypeId} {d:TypeDesc} {k:FK} (hu:P.underlying t=some d) (hd:Yi d k=true) (em:Bool) (n:Nat) (x:Value) (w:World) :
  (Instr.checkKey em (n+1) t x).run P w = .ok () w:=by
 unfold Instr.checkKey
 simp only[Sem.run_bind,run_underlying hu,Result.andThen_ok]
 cases d<;>first | (cases k<;>cases hd;done) | simp
theorem ML {xs ys:List V} {X Y:List Value} (hX:Az R xs=some X) (hY:Az R ys=some Y):∀{fs:List Field} {l:List (Nat × FK)} {b:Bool},
  Gy P fs=some l->Gz l xs ys=some b->∀(em:Bool) (w:World),∀f∈fs,f.name ≠ "_" -> ∃y,(part f.type X.toArray f.offset).run P w = .ok y w/\(Instr.checkKey em 9999 f.type y).run P w = .ok () w
 | [],l,b,hl,h,em,w,f,hf,_=>by cases hf
 | g::fs,l,b,hl,h,em,w,f,hf,hn=>by
  simp only[Gy]at hl
  by_cases hg:g.name = "_"
  ·have hb:(g.name == "_")=true:=by simp[hg]
   rw[hb]at hl
   rcases BF.1 hf with rfl|hf
   ·exact absurd hg hn
   ·exact ML hX hY hl h em w f hf hn
  ·have hb:(g.name == "_")=false:=by simp[hg]
   rw[hb]at hl
   cases hr:Gy P fs with
   | none=>rw[hr]at hl;cases hl
   | some r=>
    rw[hr]at hl
    cases hu:P.underlying g.type with
    | none=>simp only[hu]at hl;cases hl
    | some d=>
     simp only[hu]at hl
     have hk:∃k,l=(g.offset,k)::r/\Yi d k=true:=by
      cases d<;>simp only[AK.injEq,reduceCtorEq]at hl<;>subst hl<;>exact⟨_,rfl,rfl⟩
     obtain⟨k,rfl,hk⟩:=hk
     simp only[Gz]at h
     cases hc:Ky k (Iu xs g.offset) (Iu ys g.offset)with
     | none=>simp only[hc]at h;cases h
     | some a=>
      simp only[hc]at h
      cases hf':Gz r xs ys with
      | none=>simp only[hf']at h;cases h
      | some b'=>
       obtain⟨hlu,hlv⟩:=Me hc
       rcases BF.1 hf with rfl|hf
       ·obtain⟨x,hx,hpx⟩:=MH (P:=P) hu hk hX rfl hlu w
        exact⟨x,hpx,Yh hu hk em 9998 x w⟩
       ·exact ML hX hY hr hf' em w f hf hn
theorem Mf {t:TypeId} {x:V} (h:P0 (PR P t) x=true) {u:Value} (hu:Ar R x=some u) (em:Bool) (w:World) :
  (Instr.checkKey em 10000 t u).run P w = .ok () w:=by
 unfold P0 at h
 split at h
 ·rename_i b hb
  obtain⟨l,xs,ys,htg,rfl,hy,he⟩:=MP hb
  cases hy
  obtain⟨fs,hut,hs,hfl⟩:=MK htg
  obtain⟨X,hX,rfl⟩:=Ha hu
  have hut':=hut
  clear htg hb h hut hs hu
  have key:(Instr.checkKey em (9999+1) t (.agg X.toArray)).run P w = .ok () w:=by
   unfold Instr.checkKey
   simp only[Sem.run_bind,run_underlying hut',Result.andThen_ok]
   rw[<-Array.forIn_toList]
   have hall:∀f∈fs.toList,f.name ≠ "_" -> ∃y,(part f.type X.toArray f.offset).run P w = .ok y w/\(Instr.checkKey em 9999 f.type y).run P w = .ok () w:=ML hX hX hfl he em w
   generalize fs.toList=L at hall
   induction L with
   | nil=>simp
   | cons f L ih=>
    have ih:=ih (fun y hy=>hall y (by simp[hy]))
    by_cases hn:f.name = "_"
    ·simp only[List.forIn_cons,Sem.run_bind,hn,ne_eq,not_true_eq_false,if_false,Result.andThen_ok,Sem.run_pure]
     exact ih
    ·obtain⟨y,p1,p2⟩:=hall f (by simp) hn
     simp only[List.forIn_cons,Sem.run_bind,hn,ne_eq,not_false_eq_true,if_true,Result.andThen_ok,p1,p2,Sem.run_pure]
     exact ih
  exact key
 ·cases h
theorem Lj {t:TypeId} {fs:Array Field} (hut:P.underlying t=some (.struct fs)) {k:V} {u:Value} (hu:Ar R k=some u) (w:World):∀{l:List (V × V)} {es:List MapEntry} {r:Option V} (i:Nat),
  P6 (PR P t) k l=some r->Cp R l es ->
  (match r with
   | none=>(Instr.findAsking t u es i).run P w = .ok none w
   | some v=>∃j x,Ar R v=some x/\(Instr.findAsking t u es i).run P w = .ok (some (j,x)) w)
 | [],[],r,i,h,_=>by
  simp only[P6,AK.injEq]at h;subst h
  simp[Instr.findAsking]
 | (q,v)::l,e::es,r,i,h,hm=>by
  obtain⟨hq,hv,hm⟩:=hm
  simp only[P6]at h
  cases hb:nT (PR P t) k q with
  | none=>rw[hb]at h;cases h
  | some b=>
   rw[hb]at h
   have he:=kR (P:=P) hb hu hq w
   cases b with
   | true=>
    simp only[AK.injEq]at h;subst h
    exact⟨i,e.val,hv,by simp[Instr.findAsking,he]⟩
   | false=>
    simp only at h
    have ih:=Lj hut hu w (i+1) h hm
    cases r with
    | none=>simpa[Instr.findAsking,he]using ih
    | some v'=>simpa[Instr.findAsking,he]using ih
 | [],_::_,_,_,_,hm=>hm.elim
 | _::_,[],_,_,_,hm=>hm.elim
theorem Kt {t:TypeId} {fs:Array Field} (hut:P.underlying t=some (.struct fs)) (x:Value) (es:List MapEntry) (w:World) :
  (Instr.findKey t x es).run P w=(Instr.findAsking t x es).run P w:=by
 cases es with
 | nil=>simp[Instr.findKey,run_underlying hut,Instr.findNow,Instr.findAsking]
 | cons e es=>simp[Instr.findKey,run_underlying hut,Instr.findNow,Instr.sameNow]
theorem N1 {t:TypeId} {x:V} (h:P0 (PR P t) x=true):x.live=true/\∃fs:Array Field,P.underlying t=some (.struct fs):=by
 unfold P0 at h
 split at h
 ·rename_i b hb
  obtain⟨l,xs,ys,htg,rfl,hy,he⟩:=MP hb
  obtain⟨fs,hut,_⟩:=MK htg
  exact⟨rfl,fs,hut⟩
 ·cases h
theorem Vq {t:TypeId} (h:(NS P t).live=true) (w:World):∃z,(zeroValue t).run P w = .ok z w/\Ar R (NS P t)=some z:=by
 unfold NS at h ⊢
 cases hi:P.info? t with
 | none=>rw[hi]at h;cases h
 | some i=>
  rw[hi]at h
  cases hz:i.zero with
  | none=>simp only[hz]at h;cases h
  | some z=>
   simp only[hz]at h
   exact⟨z,by simp[zeroValue,typeInfo,hi,hz],by simpa only [hz]using U6 R z h⟩
theorem DL.mapAt (h:DL C R Z w) {b:Nat} {l:List (V × V)} (hl:look Z.bl b=some (.map l)):∃i es clock,R b=some i/\w.heap[i.blk]? = some (.map es clock)/\Cp R l es.toList:=by
 obtain⟨i,hi,_,es,clock,hw,hm⟩:=h.own b _ hl
 exact⟨i,es,clock,hi,hw,hm⟩
theorem V6 (hrel:DL C R Z w) {t k el:TypeId} (hut:P.underlying t=some (.map k el)) {m x v:V} (h:LZ (PR P k) (NS P el) m x Z=some v)
  {mv xv:Value} (hm:m.live=true->Ar R m=some mv) (hx:x.live=true->Ar R x=some xv) :
  ∃y,Ar R v=some y/\(Instr.lookup t mv xv true).run P w = .ok y w:=by
 unfold LZ at h
 split at h
 ·rename_i b
  split at h
  ·rename_i l hl
   split at h
   ·rename_i hk
    obtain⟨hlx,fs,hfs⟩:=N1 hk
    have hxv:=hx hlx
    obtain⟨i,es,clock,hi,hw,hmh⟩:=hrel.mapAt hl
    obtain⟨j,hj,hmv⟩:=Hr (hm rfl)
    rw[hi]at hj;cases hj
    subst hmv
    have hget:(getObj i.blk).run P w = .ok (.map es clock) w:=by simp[getObj,Sem.run,hw]
    have hck:=Mf (P:=P) hk hxv es.isEmpty w
    unfold Instr.lookup
    split at h
    ·rename_i u hf
     simp only[AK.injEq]at h;subst h
     obtain⟨j,y,hy,hfa⟩:=Lj hfs hxv w 0 hf hmh
     refine⟨_,Jk (BM.2 ⟨y,_,hy,BM.2 ⟨.bool true,[],rfl,rfl,rfl⟩,rfl⟩),?_⟩
     simp[run_underlying hut,hget,hck,Kt hfs,hfa]
    ·rename_i hf
     split at h
     ·rename_i hz
      simp only[AK.injEq]at h;subst h
      obtain⟨z,hzr,hzc⟩:=Vq (P:=P) (R:=R) hz w
      have hfa:=Lj hfs hxv w 0 hf hmh
      simp only at hfa
      refine⟨_,Jk (BM.2 ⟨z,_,hzc,BM.2 ⟨.bool false,[],rfl,rfl,rfl⟩,rfl⟩),?_⟩
      simp[run_underlying hut,hget,hck,Kt hfs,hfa,hzr]
     ·cases h
    ·cases h
   ·cases h
  ·cases h
 ·cases h
theorem SQ {s:TypeId} {fs:Array Field} {f:Nat} {fd:Field} (hu:P.underlying s=some (.struct fs)) (hf:fs[f]? = some fd) (hz:GF P fd.type=some 0)
  (ho:fd.offset=0) (hb:fd.byteOffset=0) (hc:P.cellsOf s=0) {v:Value} {blk sh:Nat} (hv:v = .pointer (some ⟨blk,sh,none⟩)) {fr:Nat × Nat} (hblk:w.heap[blk]? = some (.cells #[] s fr)) :
  (Instr.fieldAt s v f).run P w = .ok (.pointer (some ⟨blk,sh,none⟩)) w:=by
 subst hv
 have hby:∀o,(byteOf ⟨blk,o,none⟩).run P w = .ok 0 w:=fun o=>by
  have hsh:w.shape? blk=some (s,0):=by simp[World.shape?,hblk]
  unfold byteOf noView viewAt
  simp[hsh,hc]
 unfold Instr.fieldAt fieldPlace partAt
 simp[run_underlying hu,hf,Instr.sureAddr,EA hz w,ho,hb,hby]
theorem Lt (hrel:DL C R Z w) (he:Bn R e a.tmps) (o:Oper) {v:V} (h:CU C.E (Ac P C.G o.op) e Z=some v) :
  ∃x,Ar R v=some x/\(execOp a.eval o).run P w = .ok (.value x) w:=by
 have hg:=hrel.globOk
 have val:∀{s:Sem Value} {x:Value},s.run P w = .ok x w->(do pure (Next.value (<-s)):Sem Next).run P w = .ok (.value x) w:=fun hs=>by simp[hs]
 obtain⟨dst,op,ty,pos,after,guard⟩:=o
 simp only at h
 cases op with
 | load t x=>
  simp only[Ac]at h
  cases hs:GW P t with
  | none=>rw[hs]at h;cases h
  | some s=>
   rw[hs]at h
   have h:CU C.E (match s with | some 0=>EK.load0 (Ak C.G x) | s=>EK.load s (Ak C.G x)) e Z=some v:=by
    cases s with
    | none=>exact h
    | some n=>cases n<;>exact h
   obtain⟨h1,h2⟩:=J3 (P:=P) hs w
   cases s with
   | none=>
    simp only[CU]at h
    split at h
    ·rename_i b off hx
     split at h
     ·rename_i l hr
      obtain⟨j,hj,hev⟩:=IG (a:=a) he hg hx
      obtain⟨i,arr,el,fr,hi,hblk,hold⟩:=hrel.read hr
      rw[hj]at hi;cases hi
      obtain⟨y,hy,hone,hay⟩:=hold off v h
      refine⟨y,hy,val ?_⟩
      have hc:w.cell? ⟨j.blk,j.shift+off,none⟩=some y:=by rw[NM hblk];exact hay
      unfold Instr.loadAt loadVar
      simp[Instr.sureAddr,hev,h1,hc]
     ·cases h
    ·cases h
   | some n=>
    cases n with
    | zero=>simp only[CU]at h;cases h
    | succ n=>
    simp only[CU]at h
    split at h
    ·rename_i b off hx
     split at h
     ·rename_i l hr;cases h
      obtain⟨j,hj,hev⟩:=IG (a:=a) he hg hx
      obtain⟨i,xs,hi,hc,_,hlen,_,hcell⟩:=hrel.readN hr
      rw[hj]at hi;cases hi
      refine⟨_,DX hc,val ?_⟩
      have hl:=run_loadCells_list (P:=P) w ⟨j.blk,j.shift+off,none⟩ xs hcell
      rw[hlen]at hl
      unfold Instr.loadAt loadVar
      simp[Instr.sureAddr,hev,h1,h2 _ rfl,hl]
     ·cases h
    ·cases h
 | convert s d x=>
  simp only[Ac]at h
  unfold cm at h
  split at h
  ·simp only[CU]at h;cases h
  ·simp only[CU]at h;cases h
  ·split at h<;>(simp only[CU]at h;cases h)
  ·rename_i el hs hd
   split at h
   ·rename_i hel
    simp only[CU]at h
    split at h
    ·cases h
    rename_i hnostr
    split at h
    ·rename_i q l hsrc
     split at h
     ·rename_i str hb
      cases h
      refine⟨_,rfl,val ?_⟩
      unfold CY at hsrc
      split at hsrc
      ·rename_i hx
       have hc:=ev (a:=a) he hg hx rfl
       simp only[Ar,AK.injEq]at hc
       cases hsrc
       simp only[FN,AK.injEq]at hb;subst hb
       rw[<-hc,run_convert_bytes_nil w s el hs hel 0 0 d hd];rfl
      ·rename_i b off k z hx
       obtain⟨i,_,_,hev⟩:=ER (ev (a:=a) he hg hx rfl)
       cases hsrc
       simp only[FN,AK.injEq]at hb;subst hb
       rw[hev,run_convert_bytes_string w s d el _ 0 _ hs hel hd,run_bytesToString w _ 0 _ [] (by simp[loadCells,loadCellsFrom])]
       rfl
      ·rename_i b off len c hx
       simp only[Ao]at hsrc
       obtain⟨l',hrd,heq⟩:=hsrc
       cases heq
       obtain⟨i,m,hi,hev,_⟩:=C3 (ev (a:=a) he hg hx rfl)
       obtain⟨i',xs,hi',hc,_,hlen,_,hcell⟩:=hrel.readN hrd
       rw[hi]at hi';cases hi'
       obtain⟨ns,rfl,rfl⟩:=OM hb hc
       have hl:=run_loadCells_list (P:=P) w ⟨i.blk,i.shift+off,none⟩ _ hcell
       rw[hlen,FC]at hl
       rw[hev,run_convert_bytes_string w s d el _ _ _ hs hel hd,run_bytesToString w _ _ _ ns hl,foldl_push_bytes]
       congr 2
       apply ByteArray.ext
       show #[]++_=_
       simp[BS.toList_ofList]
      ·rename_i l' hx
       exact(hnostr (by rw[hx];rfl)).elim
      ·cases hsrc
     ·cases h
    ·cases h
   ·simp only[CU]at h;cases h
  ·simp only[CU]at h;cases h
 | call c=>
  obtain⟨callee,args,argTypes⟩:=c
  cases callee with
  | value f=>cases f<;>(simp only[Ac,CU]at h;cases h)
  | invoke r m=>simp only[Ac,CU]at h;cases h
  | builtin b=>
   simp only[Ac,KM]at h
   have hno:∀(q:Bool) (e1:TypeId) (n m:Nat) (x y:AO),CU C.E (if q=true then EK.bad else EK.append e1 n m x y) e Z≠some v:=by
    intro q e1 n m x y;cases q<;>simp[CU]
   split at h
   ·(repeat' split at h)<;>(simp only[CU]at h;cases h)
   ·(repeat' split at h)<;>(simp only[CU]at h;cases h)
   ·split at h
    ·split at h
     ·split at h
      ·exact(hno _ _ _ _ _ _ h).elim
      ·simp only[CU]at h;cases h
     ·simp only[CU]at h;cases h
    ·simp only[CU]at h;cases h
   ·(repeat' split at h)<;>(simp only[CU]at h;cases h)
   ·simp only[CU]at h;cases h
   ·simp only[CU]at h;cases h
   ·simp only[CU]at h;cases h
 | fieldAddr st x f=>
  simp only[Ac]at h
  split at h
  ·rename_i fs hu
   split at h
   ·rename_i fd hf
    split at h
    ·rename_i hz
     split at h
     ·rename_i hc
      simp only[AF,beq_iff_eq]at hc
      simp only[CU]at h
      unfold NK at h
      split at h
      ·rename_i b hx
       split at h
       ·rename_i t' hb
        split at h
        ·rename_i ht
         have ht:=BO ht
         subst ht
         simp only[AK.injEq]at h;subst h
         obtain⟨i,hi,_,fr,hblk⟩:=hrel.own b _ hb
         obtain⟨j,hj,hev⟩:=IG (a:=a) he hg hx
         rw[hi]at hj;cases hj
         refine⟨_,C4 hi,val ?_⟩
         exact SQ hu hf hz hc.1.1 hc.1.2 hc.2 hev hblk
        ·cases h
       ·cases h
      ·cases h
     ·simp only[CU]at h;cases h
    ·simp only[CU]at h;cases h
    ·simp only[CU]at h;cases h
   ·simp only[CU]at h;cases h
  ·simp only[CU]at h;cases h
 | lookup t x y ok=>
  cases ok with
  | false=>simp only[Ac,CU]at h;cases h
  | true=>
   simp only[Ac]at h
   split at h
   ·rename_i k el hut
    simp only[CU]at h
    obtain⟨z,hz,hrun⟩:=V6 (P:=P) hrel hut h (fun hl=>ev (a:=a) he hg rfl hl) (fun hl=>ev (a:=a) he hg rfl hl)
    exact⟨z,hz,val hrun⟩
   ·simp only[CU]at h;cases h
 | makeMap t r=>cases r<;>(simp only[Ac,CU]at h;cases h)
 | move x=>simp only[Ac,CU]at h;cases h
 | assign x=>simp only[Ac,CU]at h;cases h
 | makeFunc f x y=>cases f<;>(simp only[Ac,CU]at h;cases h)
 | _=>simp only[Ac]at h;first | (simp only[CU]at h;cases h;done) | ((repeat' split at h)<;>(simp only[CU]at h;cases h))
theorem Hd.of_concs {l:List V} {xs:List Value} {arr:Array Value} (h:Az R l=some xs) (h1:∀x∈xs,x.oneCell'=true) (ha:∀k,k<xs.length->arr[k]? = xs[k]?):Hd R 0 l arr:=by
 intro k v hk
 obtain⟨x,hx,hkx⟩:=EE h hk
 have hlt:k<xs.length:=by
  rcases Ad k xs.length with h|h
  ·exact h
  ·rw[Af h]at hkx;cases hkx
 exact⟨x,hx,h1 x (D5 hkx),by rw[B2,ha k hlt];exact hkx⟩
theorem HL:∀{l:List V} {xs:List Value},BJ l=true->Az R l=some xs->∀x∈xs,x.oneCell'=true
 | [],xs,_,hc=>by simp only[Az,AK.injEq]at hc;subst hc;simp
 | v::l,xs,h,hc=>by
  obtain⟨x,ys,hx,hy,rfl⟩:=BM.1 hc
  simp only[BJ,AF]at h
  intro y hm
  rcases BF.1 hm with rfl|hm
  ·exact(SY h.1 hx).2
  ·exact HL h.2 hy y hm
theorem HI {w':World} {l:List V} {xs:List Value} {arr:Array Value} {el:TypeId} {lo hi endc n:Nat} (hb:w'.heap[n]? = some (.cells arr el (lo,hi)))
  (h:Az R l=some xs) (h1:∀x∈xs,x.oneCell'=true) (ha:∀k,k<xs.length->arr[k]? = xs[k]?) (he:endc<=arr.size) (hl:l.length<=endc)
  (hf:∀off,off<arr.size->¬(lo<=off/\off<hi)):E4 R ⟨n,0,endc⟩ (.cells l) w':=
 ⟨arr,el,lo,hi,hb,Hd.of_concs h h1 ha,by simpa using he,hl,hf⟩
theorem Sf {x:Value} (h:(Ej x).live=true):(Ej x).one=true:=by
 unfold Ej at h ⊢
 split at h<;>first | rfl | (cases h)
theorem ZD {x:Value} {l:List V} (h:ZE x=some l):BJ l=true:=by
 unfold ZE at h
 split at h
 ·rename_i hall
  cases h
  generalize x.cells.toList=m at hall ⊢
  induction m with
  | nil=>rfl
  | cons y m ih=>
   simp only[B3,Vp,AF,BJ]at hall ⊢
   exact⟨Sf hall.1,ih hall.2⟩
 ·cases h
theorem PW {t:TypeId} {l:List V} (h:JL P t=some l):BJ l=true:=by
 unfold JL at h
 cases hi:P.info? t with
 | none=>rw[hi]at h;cases h
 | some i=>
  rw[hi]at h
  cases hz:i.zero with
  | none=>simp only[hz]at h;cases h
  | some z=>simp only[hz]at h;exact ZD h
theorem DV (w:World) (o:Obj):(w.alloc o).heap[w.heap.size]? = some o:=by simp[World.alloc,-World.alloc_eq]
theorem EF {z:List V} {zs:List Value} (h:Az R z=some zs):∀n,Az R (BT n z).flatten=some (BT n zs).flatten
 | 0=>rfl
 | n+1=>by simp only[bC,wS];exact G9 h (EF h n)
theorem KN:∀{l m:List V},BJ l=true->BJ m=true->BJ (l++m)=true
 | [],m,_,hm=>hm
 | v::l,m,hl,hm=>by
  simp only[BJ,L8,AF]at hl ⊢
  exact⟨hl.1,KN hl.2 hm⟩
theorem FJ {z:List V} (h:BJ z=true):∀n,BJ (BT n z).flatten=true
 | 0=>rfl
 | n+1=>by simp only[bC,wS];exact KN h (FJ h n)
theorem bj (zs:List Value) (n k:Nat) (hk:k<n*zs.length):(BT n zs).flatten[k]? = zs[k % zs.length]? := by
 induction n generalizing k with
 | zero=>omega
 | succ n ih=>
  simp only[bC,wS]
  have hz:0<zs.length:=by
   rcases PF zs.length with h|h
   ·rw[h]at hk;omega
   ·exact h
  by_cases h:k<zs.length
  ·rw[Ay h,Ew h]
  ·have hmul:(n+1)*zs.length=n*zs.length+zs.length:=Nat.succ_mul n zs.length
   rw[BX (by omega),ih _ (by omega)]
   congr 1
   exact(Nat.mod_eq_sub_mod (by omega)).symm
theorem Pp (zs:Array Value) (n:Nat):(Array.range (n*zs.size)).map (fun i=>zs[i % zs.size]!)=(BT n zs.toList).flatten.toArray:=by
 apply GV
 apply FO
 intro k
 simp only[Array.toList_map,Array.toList_range,Bk]
 by_cases hk:k<n*zs.size
 ·rw[bD hk,bj _ _ _ (by simpa using hk)]
  simp only[Bo,EX]
  have hz:0<zs.size:=by
   rcases PF zs.size with h|h
   ·rw[h]at hk;omega
   ·exact h
  have hlt:k % zs.size<zs.size:=Nat.mod_lt _ hz
  simp[hlt]
 ·rw[Af (by simp;omega),Af (by simp;omega)]
  rfl
end Go.Og
namespace Go.Og
variable {P:Program} {G:Nat->Bool} {R:Ren} {e:Bt} {a:Act} {C:Cx} {Z:H} {w:World}
theorem FA.bytes (w:World) (el:TypeId) (s:ByteArray):FA w (Lib.bytesWorld w el s):=
 ⟨fun k hk=>Lib.bytesWorld_at_old w el s k hk,Lib.bytesWorld_size w el s,by simp[Lib.bytesWorld,World.freeze,World.alloc,World.drew,-World.alloc_eq,-World.drew_eq],by simp[Lib.bytesWorld,World.freeze,World.alloc,World.drew,-World.alloc_eq,-World.drew_eq],by simp[Lib.bytesWorld,World.freeze,World.alloc,World.drew,-World.alloc_eq,-World.drew_eq]⟩
theorem Kq (R:Ren):∀l:List UInt8,Az R (PS l)=some (l.map fun b=>Value.int .u8 b.toNat)
 | []=>rfl
 | _::l=>BM.2 ⟨_,_,rfl,Kq R l,rfl⟩
theorem LA {b off n c:Nat} {i:BI} (h:R b=some i):Ar R (.sl b off n (.ex c))=some (.slice (some ⟨i.blk,i.shift+off,none⟩) n c):=by
 simp only[Ar,h,Bo]
theorem HY {b off n z:Nat} {i:BI} (h:R b=some i) (hn:n<=i.cap z off/\i.cap z off<=9223372036854775807):Ar R (.sl b off n (.op z))=some (.slice (some ⟨i.blk,i.shift+off,none⟩) n (i.cap z off)):=by
 simp only[Ar,h,L4,if_pos hn]
theorem YP (need old:Nat) (el:TypeId) (t:Nat):need<=(Question.appendCap need old el).cut t:=by simp[Question.cut]
theorem Yy (need old:Nat) (el:TypeId) (t:Nat) (h:need<=9223372036854775807):(Question.appendCap need old el).cut t<=9223372036854775807:=by
 show need+t % (2 ^ 63-need)<=_
 have:=Nat.mod_lt t (show 0<2 ^ 63-need by omega)
 omega
theorem NO (he:Bn R e a.tmps) (hg:Dp G R) (o:Oper) {id:Nat} {v:V} {b:Gv} (h:CX (Ac P G o.op) e id=some (v,b)) (hid:R id=none) (w:World) :
  ∃x w' i,(execOp a.eval o).run P w = .ok (.value x) w'/\FA w w'/\i.blk=w.heap.size/\Ar (Hl R id i) v=some x/\E4 (Hl R id i) i b w':=by
 have val:∀{s:Sem Value} {x:Value} {w':World},s.run P w = .ok x w'->(do pure (Next.value (<-s)):Sem Next).run P w = .ok (.value x) w':=fun hs=>by simp[hs]
 have hle:∀i,Le R (Hl R id i):=fun i k j hk=>by
  by_cases he:k=id
  ·subst he;rw[hid]at hk;cases hk
  ·rw[Bb he];exact hk
 obtain⟨dst,op,ty,pos,after,guard⟩:=o
 simp only at h
 cases op with
 | alloc t=>
  simp only[Ac]at h
  cases hz:JL P t with
  | none=>rw[hz]at h;simp only[CX]at h;cases h
  | some z=>
   rw[hz]at h
   cases z with
   | nil=>
    simp only[CX,AK.injEq,Prod.mk.injEq]at h
    obtain⟨rfl,rfl⟩:=h
    obtain⟨zv,hzr,hzc⟩:=GJ (P:=P) (R:=R) hz w
    have hz0:zv.cells=#[]:=by
     have:=Ba hzc
     simp at this;simpa using this
    refine⟨_,_,⟨w.heap.size,0,0⟩,val ?_,FA.of_alloc w (.cells zv.cells t),rfl,C4 (Bv _ _ _),?_⟩
    ·unfold Instr.alloc
     simp[hzr,newVar,newRow]
    ·exact⟨(0,0),by rw[DV,hz0]⟩
   | cons z0 z=>
   simp only[CX,AK.injEq,Prod.mk.injEq]at h
   obtain⟨rfl,rfl⟩:=h
   obtain⟨zv,hzr,_⟩:=GJ (P:=P) (R:=R) hz w
   obtain⟨zv',hzr',hzc⟩:=GJ (P:=P) (R:=Hl R id ⟨w.heap.size,0,zv.cells.size⟩) hz w
   rw[hzr]at hzr';cases hzr'
   refine⟨_,_,⟨w.heap.size,0,zv.cells.size⟩,val ?_,FA.of_alloc w (.cells zv.cells t),rfl,C4 (Bv _ _ _),?_⟩
   ·unfold Instr.alloc
    simp[hzr,newVar,newRow]
   ·refine HI (DV w _) hzc (HL (PW hz) hzc) (fun k _=>by simp) (AG _) ?_ (fun _ _ h=>by omega)
    have:=Ba hzc
    simp at this ⊢;omega
 | box t x=>
  simp only[Ac]at h
  split at h
  ·simp only[CX]at h
   split at h
   ·rename_i hx
    simp only[AK.injEq,Prod.mk.injEq]at h
    obtain⟨rfl,rfl⟩:=h
    obtain⟨l,hl,hev⟩:=RF (a:=a) he hg hx
    simp only[Az,AK.injEq]at hl;subst hl
    refine⟨_,_,⟨w.heap.size,0,0⟩,val ?_,FA.of_alloc w (.cells #[] t),rfl,C4 (Bv _ _ _),?_⟩
    ·unfold Instr.box
     simp[hev,newVar,newRow,Value.cells]
    ·exact⟨(0,0),by rw[DV]⟩
   ·cases h
  ·simp only[CX]at h
   split at h
   ·rename_i hl
    simp only[AF]at hl
    simp only[AK.injEq,Prod.mk.injEq]at h
    obtain⟨rfl,rfl⟩:=h
    have hc:=ev (a:=a) he hg rfl hl.1
    have hcs:=HZ hc
    refine⟨_,_,⟨w.heap.size,0,(a.eval x).cells.size⟩,val ?_,FA.of_alloc w (.cells (a.eval x).cells t),rfl,C4 (Bv _ _ _),?_⟩
    ·unfold Instr.box
     simp[newVar,newRow]
    ·have hcs':=EP (hle ⟨w.heap.size,0,(a.eval x).cells.size⟩) _ _ hcs
     refine HI (DV w _) hcs' (HL hl.2 hcs') (fun k _=>by simp) (AG _) ?_ (fun _ _ h=>by omega)
     have:=Ba hcs
     simp at this;omega
   ·cases h
 | buildSlice t n ps=>
  simp only[Ac]at h
  split at h
  ·rename_i el hu
   split at h
   ·rename_i s z hs hz
    cases hc:EG G (fun i=>some (i*s,s)) ps.toList with
    | none=>rw[hc]at h;simp only[CX]at h;cases h
    | some l=>
     rw[hc]at h
     simp only at h
     split at h
     ·simp only[CX]at h;cases h
     ·rename_i hcond
      simp only[L9,BN,decide_eq_false_iff_not,bne_eq_false_iff_eq]at hcond
      obtain⟨hsmall,hzl⟩:=hcond
      simp only[CX]at h
      cases hf:Hq (JY e l) (BT n z).flatten with
      | none=>rw[hf]at h;cases h
      | some r=>
       rw[hf]at h
       simp only at h
       split at h
       ·rename_i hone
        simp only[AK.injEq,Prod.mk.injEq]at h
        obtain⟨rfl,rfl⟩:=h
        obtain⟨zv,hzr,hzc⟩:=GJ (P:=P) (R:=R) hz w
        have hzlen:zv.cells.size=s:=by have:=Ba hzc;simp at this;omega
        have hzz:=EF hzc n
        obtain⟨out,h1,h2,h3⟩:=NJ (a:=a) he hg ps.toList l _ r (BT n zv.cells.toList).flatten.toArray hc (by simpa using hzz) hf
        have hrun:(Instr.buildSlice t n (ps.map fun(i,x)=>(i,a.eval x))).run P w = .ok (.slice (some ⟨w.heap.size,0,none⟩) n n) (w.alloc (.cells out el)):=by
         have hmap:(ps.map (fun(x:Nat × Operand)=>(x.1,a.eval x.2))).toList=ps.toList.map (fun(x:Nat × Operand)=>(x.1,a.eval x.2)):=Array.toList_map
         unfold Instr.buildSlice
         simp only[Sem.run_bind,run_underlying hu,Result.andThen_ok,EA hs w]
         rw[if_neg (by simpa using hsmall)]
         by_cases h0:n*s=0
         ·rw[if_pos h0]
          simp only[Sem.run_pure,Result.andThen_ok,hmap]
          have hemp:(BT n zv.cells.toList).flatten.toArray=#[]:=by
           apply GV
           apply Bh
           simp[hzlen,h0]
          rw[hemp]at h1
          have hr0:∀f:Nat->Value,(Array.range (n*s)).map f=#[]:=fun f=>by rw[h0];apply GV;simp
          simp only[Sem.run_pure,Result.andThen_ok,hmap,hr0,h1,Sem.run_bind,newRow,run_newObj]
          rfl
         ·rw[if_neg h0]
          simp only[Sem.run_bind,hzr,Result.andThen_ok,Sem.run_pure,hmap]
          have hr:=Pp zv.cells n
          rw[hzlen]at hr
          simp only[hzlen,hr,h1,Sem.run_bind,newRow,run_newObj,Result.andThen_ok,Sem.run_pure]
          rfl
        refine⟨_,_,⟨w.heap.size,0,out.size⟩,val hrun,FA.of_alloc w _,rfl,?_,?_⟩
        ·exact LA (Bv _ _ _)
        ·have hcs':=EP (hle ⟨w.heap.size,0,out.size⟩) _ _ h2
         refine HI (DV w _) hcs' (HL hone hcs') (fun k _=>by simp) (AG _) ?_ (fun _ _ h=>by omega)
         have:=Ba h2
         simp at this;omega
       ·cases h
   ·simp only[CX]at h;cases h
  ·simp only[CX]at h;cases h
 | convert s d x=>
  simp only[Ac]at h
  unfold cm at h
  split at h
  ·simp only[CX]at h;cases h
  ·simp only[CX]at h;cases h
  ·rename_i el hs hd
   split at h
   ·rename_i hel
    simp only[CX]at h
    split at h
    ·rename_i l hx
     split at h
     ·rename_i hble
      have hl12:l.toList.length<=9223372036854775807:=by rw[BS.length_toList];have:=Nat.le_of_ble_eq_true hble;omega
      simp only[AK.injEq,Prod.mk.injEq]at h
      obtain⟨rfl,rfl⟩:=h
      have hev:=Kx (a:=a) he hg hx
      rw[<-BS.length_toList]
      generalize l.toList=l at *
      have hsz:(ByteArray.mk l.toArray).size=l.length:=by simp[ByteArray.size]
      have hcap:l.length<=grownCap w l.length 0 el:=YP _ _ _ _
      have hcap2:grownCap w l.length 0 el<=9223372036854775807:=Yy _ _ _ _ hl12
      have hcells:(Lib.bytesCells w el ⟨l.toArray⟩).size=grownCap w l.length 0 el:=by
       simp[Lib.bytesCells,hsz];omega
      refine⟨_,_,⟨w.heap.size,0,(Lib.bytesCells w el ⟨l.toArray⟩).size⟩,val (by rw[hev];exact Lib.run_convert_string_bytes w s d el _ hs hd hel),FA.bytes w el _,rfl,?_,?_⟩
      ·rw[HY (Bv _ _ _) (by simp[BI.cap,hcells];exact⟨hcap,hcap2⟩)]
       simp[BI.cap,hcells,hsz]
      ·refine HI (Lib.bytesWorld_at_new w el _) (Kq _ l) (by simp;intro x _;rfl) (fun k hk=>?_) (AG _) (by rw[hcells];simpa[PS]using hcap) (fun off h1 h2=>by omega)
       simp only[Ea]at hk
       simp[Lib.bytesCells,Array.getElem?_append,hk]
     ·cases h
    ·cases h
   ·simp only[CX]at h;cases h
  ·split at h<;>(simp only[CX]at h;cases h)
  ·simp only[CX]at h;cases h
 | makeMap t r=>
  cases r with
  | some r=>simp only[Ac,CX]at h;cases h
  | none=>
   simp only[Ac,CX,AK.injEq,Prod.mk.injEq]at h
   obtain⟨rfl,rfl⟩:=h
   refine⟨.map (some w.heap.size),w.alloc (.map #[] 0),⟨w.heap.size,0,0⟩,val ?_,FA.of_alloc w (.map #[] 0),rfl,by simp only[Ar,Bv,Bo],⟨#[],0,DV w _,trivial⟩⟩
   simp[Instr.makeMap]
 | makeSlice t ln cp=>
  simp only[Ac]at h
  split at h
  ·rename_i el hu
   split at h
   ·rename_i i z hi hz
    split at h
    ·simp only[CX]at h;cases h
    ·rename_i hzl
     simp only[L9,bne_eq_false_iff_eq]at hzl
     simp only[CX]at h
     split at h
     ·rename_i n c hn hc
      split at h
      ·rename_i hcond
       obtain⟨h0,h1,h2,h3⟩:=hcond
       simp only[AK.injEq,Prod.mk.injEq]at h
       obtain⟨rfl,rfl⟩:=h
       obtain⟨zv,hzr,hzc⟩:=GJ (P:=P) (R:=R) hz w
       have hzlen:zv.cells.size=i.size:=by have:=Ba hzc;simp at this;omega
       have hzz:=EF hzc c.toNat
       have hwn:IntKind.i64.wrap n=n:=IntWalk.i64_in n ⟨by omega,by omega⟩
       have hwc:IntKind.i64.wrap c=c:=IntWalk.i64_in c ⟨by omega,by omega⟩
       have hrun:(Instr.makeSlice t (a.eval ln) (a.eval cp)).run P w = .ok (.slice (some ⟨w.heap.size,0,none⟩) n.toNat c.toNat) (w.alloc (.cells (BT c.toNat zv.cells.toList).flatten.toArray el)):=by
        rw[Fq (a:=a) he hg hn,Fq (a:=a) he hg hc]
        unfold Instr.makeSlice
        have hti:(typeInfo el).run P w = .ok i w:=by simp[typeInfo,hi]
        have hsz:(sizeOf el).run P w = .ok i.size w:=by simp[sizeOf,typeInfo,hi]
        simp only[Sem.run_bind,run_underlying hu,Result.andThen_ok,asInt,asIntOf,Sem.run_pure,hti,hwn,hwc]
        have ht1:(decide (c<0) || decide ((i.bytes:Int)*c > 2 ^ 48))=false:=by
         rw[Int.mul_comm]at h2
         simp;omega
        have ht2:decide (n<0)=false:=by simp;omega
        have ht3:decide (n > c)=false:=by simp;omega
        simp only[ht1,ht2,ht3,JK,E1,Cd,if_false,Sem.run_bind,run_askRoom,Result.andThen_ok,hsz]
        by_cases hz0:c.toNat*i.size=0
        ·rw[if_pos hz0]
         simp only[Sem.run_pure,Result.andThen_ok,newRow,Sem.run_bind,run_newObj,hz0]
         have hemp:(BT c.toNat zv.cells.toList).flatten.toArray=#[]:=by
          apply GV
          apply Bh
          simp[hzlen,hz0]
         rw[hemp]
         have hr0:∀f:Nat->Value,(Array.range 0).map f=#[]:=fun f=>by apply GV;simp
         rw[hr0];rfl
        ·rw[if_neg hz0]
         have hr:=Pp zv.cells c.toNat
         rw[hzlen]at hr
         simp only[Sem.run_bind,hzr,Result.andThen_ok,Sem.run_pure,newRow,run_newObj,hzlen,hr]
         rfl
       refine⟨_,_,⟨w.heap.size,0,(BT c.toNat zv.cells.toList).flatten.length⟩,val hrun,FA.of_alloc w _,rfl,LA (Bv _ _ _),?_⟩
       have hcs':=EP (hle ⟨w.heap.size,0,(BT c.toNat zv.cells.toList).flatten.length⟩) _ _ hzz
       refine HI (DV w _) hcs' (HL (FJ (PW hz) _) hcs') (fun k _=>by simp) (by simp) ?_ (fun _ _ h=>by omega)
       have:=Ba hzz
       omega
      ·cases h
     ·cases h
   ·simp only[CX]at h;cases h
  ·simp only[CX]at h;cases h
 | call c=>
  obtain⟨callee,args,argTypes⟩:=c
  cases callee with
  | value f=>cases f<;>(simp only[Ac,CX]at h;cases h)
  | invoke r m=>simp only[Ac,CX]at h;cases h
  | builtin b'=>
   simp only[Ac,KM]at h
   have hno:∀(q:Bool) (e1:TypeId) (n m:Nat) (x y:AO),CX (if q=true then EK.bad else EK.append e1 n m x y) e id≠some (v,b):=by
    intro q e1 n m x y;cases q<;>simp[CX]
   split at h
   ·(repeat' split at h)<;>(simp only[CX]at h;cases h)
   ·(repeat' split at h)<;>(simp only[CX]at h;cases h)
   ·split at h
    ·split at h
     ·split at h
      ·exact(hno _ _ _ _ _ _ h).elim
      ·simp only[CX]at h;cases h
     ·simp only[CX]at h;cases h
    ·simp only[CX]at h;cases h
   ·(repeat' split at h)<;>(simp only[CX]at h;cases h)
   ·simp only[CX]at h;cases h
   ·simp only[CX]at h;cases h
   ·simp only[CX]at h;cases h
 | lookup t x y ok=>cases ok<;>simp only[Ac]at h<;>first | (simp only[CX]at h;cases h;done) | ((repeat' split at h)<;>(simp only[CX]at h;cases h))
 | move x=>simp only[Ac,CX]at h;cases h
 | assign x=>simp only[Ac,CX]at h;cases h
 | makeFunc f x y=>cases f<;>(simp only[Ac,CX]at h;cases h)
 | _=>simp only[Ac]at h;first | (simp only[CX]at h;cases h;done) | ((repeat' split at h)<;>(simp only[CX]at h;cases h))
end Go.Og
namespace Go.Og
variable {P:Program} {G:Nat->Bool} {R:Ren} {e:Bt} {a:Act} {C:Cx} {Z:H} {w:World}
structure Zm (b:Nat) (w w':World):Prop where
 old:∀k,k≠b->w'.heap[k]? = w.heap[k]?
 size:w'.heap.size=w.heap.size
 os:w'.os=w.os
 tape:w'.tape=w.tape
 output:w'.output=w.output
theorem KJ (b:Nat):∀(vs:List Value) (o:Nat) (w:World) (arr:Array Value) (el:TypeId) (fr:Nat × Nat),w.heap[b]? = some (.cells arr el fr) ->
  Zm b w (w.setCells b o vs)/\∃arr':Array Value,(w.setCells b o vs).heap[b]? = some (.cells arr' el fr)/\arr'.size=arr.size /\
   ∀k,arr'[k]? = if o<=k/\k<o+vs.length/\k<arr.size then vs[k-o]? else arr[k]?
 | [],o,w,arr,el,fr,h=>⟨⟨fun _ _=>rfl,rfl,rfl,rfl,rfl⟩,arr,h,rfl,fun k=>by rw[if_neg (by simp;omega)]⟩
 | v::vs,o,w,arr,el,fr,h=>by
  have h1:(w.setCell ⟨b,o,none⟩ v).heap[b]? = some (.cells (arr.setIfInBounds o v) el fr):=by
   simp[World.setCell,Array.getElem?_modify,h]
  obtain⟨h2,arr',h3,h4,h5⟩:=KJ b vs (o+1) _ _ el fr h1
  refine⟨⟨fun k hk=>?_,?_,h2.os,h2.tape,h2.output⟩,arr',h3,by rw[h4,Dq],fun k=>?_⟩
  ·rw[World.setCells,h2.old k hk]
   simp[World.setCell,Array.getElem?_modify,Ne.symm hk]
  ·rw[World.setCells,h2.size,World.size_setCell]
  ·rw[h5,Dq,A1]
   by_cases hk:o=k
   ·subst hk
    rw[if_neg (by omega),if_pos rfl]
    by_cases hs:o<arr.size
    ·rw[if_pos hs,if_pos (by simp;omega)];simp
    ·rw[if_neg hs,if_neg (by omega),Bq (by omega)]
   ·rw[if_neg hk]
    by_cases hc:o+1<=k/\k<o+1+vs.length/\k<arr.size
    ·rw[if_pos hc,if_pos (by simp;omega)]
     have:k-o=(k-(o+1))+1:=by omega
     rw[this,CN]
    ·rw[if_neg hc,if_neg (by simp only[AM];omega)]
theorem NX {b o lo hi:Nat} {arr:Array Value} {el:TypeId} (h:w.heap[b]? = some (.cells arr el (lo,hi))) (hf:∀off,off<arr.size->¬(lo<=off/\off<hi))
  {xs:List Value} (h1:∀x∈xs,x.oneCell'=true) (hle:o+xs.length<=arr.size) :
  ∃w',(storeCells ⟨b,o,none⟩ xs).run P w = .ok () w'/\Zm b w w'/\∃arr':Array Value,w'.heap[b]? = some (.cells arr' el (lo,hi))/\arr'.size=arr.size /\
   ∀k,arr'[k]? = if o<=k/\k<o+xs.length then xs[k-o]? else arr[k]? := by
 have hrun:=run_storeCells_cells (P:=P) b o xs 0 w
  (fun j hj=>by
   rw[NM h,L6]
   have:o+j<arr.size:=by omega
   simp[this])
  (fun j hj=>by
   have hlt:o+j<arr.size:=by omega
   simp only[World.frozen?,h,L6]
   have:=hf (o+j) hlt
   simp;omega) h1
 obtain⟨h2,arr',h3,h4,h5⟩:=KJ b xs (o+0) w arr el (lo,hi) h
 refine⟨_,hrun,h2,arr',h3,h4,fun k=>?_⟩
 rw[h5]
 simp only[L6]
 by_cases hc:o<=k/\k<o+xs.length
 ·rw[if_pos hc,if_pos (by omega)]
 ·rw[if_neg hc,if_neg (by omega)]
theorem NU (hrel:DL C R Z w) {b off:Nat} {l cs:List V} {xs:List Value} (hb:look Z.bl b=some (.cells l)) (hcs:Az R cs=some xs) (h1:BJ cs=true)
  (hle:off+cs.length<=l.length) {i:BI} (hi:R b=some i) :
  ∃w',(storeCells ⟨i.blk,i.shift+off,none⟩ xs).run P w = .ok () w'/\DL C R (Z.set b (.cells (F0 l off cs))) w':=by
 obtain⟨j,hj,hO,arr,el,lo,hi',hblk,hold,hend,hlen,hf⟩:=hrel.own b _ hb
 rw[hi]at hj;cases hj
 have hxl:=Ba hcs
 have hone:=HL h1 hcs
 obtain⟨w',hrun,hw,arr',h3,h4,h5⟩:=NX (P:=P) (o:=i.shift+off) hblk hf hone (by omega)
 refine⟨w',hrun,hrel.write hb hi ?_ hw.old hw.size hw.os hw.tape hw.output⟩
 refine⟨arr',el,lo,hi',h3,?_,by omega,by rw[HP];exact hlen,fun o ho=>hf o (by omega)⟩
 intro k v hk
 rw[LN]at hk
 by_cases hc:off<=k/\k<off+cs.length
 ·rw[if_pos hc,if_pos (by omega)]at hk
  obtain⟨x,hx,hkx⟩:=EE hcs hk
  refine⟨x,hx,hone x (D5 hkx),?_⟩
  rw[h5,if_pos (by omega)]
  rw[show i.shift+k-(i.shift+off)=k-off by omega]
  exact hkx
 ·rw[if_neg hc]at hk
  obtain⟨x,hx,ho,hkx⟩:=hold k v hk
  refine⟨x,hx,ho,?_⟩
  rw[h5,if_neg (by omega)]
  exact hkx
theorem NZ (hrel:DL C R Z w) {esz n:Nat} {x:V} {l:List V} {u:Value} (h:CY C.E Z esz x=some (n,l)) (hu:Ar R x=some u) :
  ∃xs,Az R l=some xs/\(∀y∈xs,y.oneCell'=true)/\(Builtin.lenOf u).run P w = .ok n w/\xs.length=n*esz /\
   ∀m,m<=n->(Builtin.firstCells esz m u).run P w = .ok (xs.take (m*esz)).toArray w:=by
 unfold CY at h
 split at h
 ·cases h;cases hu
  exact⟨[],rfl,by simp,rfl,by simp,fun m hm=>by simp[Builtin.firstCells]⟩
 ·cases h
  obtain⟨i,_,_,rfl⟩:=ER hu
  refine⟨[],rfl,by simp,rfl,by simp,fun m hm=>?_⟩
  have:m=0:=by omega
  subst this
  simp[Builtin.firstCells,loadCells,loadCellsFrom]
 ·rename_i b off len c
  simp only[Ao]at h
  obtain⟨l',hrd,heq⟩:=h
  cases heq
  obtain⟨i,m,hi,rfl,_⟩:=C3 hu
  obtain⟨i',xs,hi',hc,hone,hlen,_,hcell⟩:=hrel.readN hrd
  rw[hi]at hi';cases hi'
  refine⟨xs,hc,hone,rfl,hlen,fun k hk=>?_⟩
  have hkl:k*esz<=xs.length:=by rw[hlen];exact FD _ hk
  have hl:=run_loadCells_list (P:=P) w ⟨i.blk,i.shift+off,none⟩ (xs.take (k*esz)) (fun j v hj=>by
   rw[DN]at hj
   split at hj
   ·exact hcell j v hj
   ·cases hj)
  rw[Cl,aq hkl]at hl
  simp only[Builtin.firstCells]
  exact hl
 ·rename_i s
  split at h
  ·rename_i he
   cases h;cases hu
   rw[<-BS.length_toList]
   generalize s.toList=s at *
   have hsz:(ByteArray.mk s.toArray).size=s.length:=by simp[ByteArray.size]
   refine⟨_,Kq R s,by simp;intro x _;rfl,by simp[Builtin.lenOf,hsz],by simp[he],fun m hm=>?_⟩
   simp only[Builtin.firstCells,Sem.run_pure]
   congr 1
   apply GV
   rw[he,FC,ByteArray.data_extract]
   simp[List.map_take]
  ·cases h
 ·cases h
theorem Th {need old bytes:Nat} (h:old<need) (hg:Cn need bytes=true):Builtin.nextslicecap need old*bytes<=281474976710656/\(need:Int)<=9223372036854775807:=by
 simp only[Cn,AF,Ai]at hg
 exact⟨growslice_fits h hg.1,by omega⟩
set_option maxHeartbeats 800000 in
theorem RD (hrel:DL C R Z w) {t u ty el:TypeId} {i:TypeInfo} {z:Value} (ht:P.underlying t=some (.slice el)) {du:TypeDesc} (hu:P.underlying u=some du)
  (hnot:du = .string\/∃d,du = .slice d) (hi:P.info? el=some i) (hz:i.zero=some z) (hzs:z.cells.size=i.size)
  {base:Option Addr} {sLen sCap n:Nat} {x:Value} {old new:List Value} {lo ln:List V}
  (hlo:Az R lo=some old) (hln:Az R ln=some new) (h1o:∀y∈old,y.oneCell'=true) (h1n:∀y∈new,y.oneCell'=true)
  (hold:old.length=sLen*i.size) (hnew:new.length=n*i.size)
  (hlen:(Builtin.lenOf x).run P w = .ok n w) (hgo:∀d,(Builtin.firstCells i.size sLen (.slice base sLen sCap)).run P { w with drawn:=d } = .ok old.toArray { w with drawn:=d })
  (hgn:∀d,(Builtin.firstCells i.size n x).run P { w with drawn:=d } = .ok new.toArray { w with drawn:=d })
  (hlt:sCap<sLen+n) (hgr:Cn (sLen+n) i.bytes=true) (_hpos:0<i.size) :
  ∃w' c,(Builtin.append_ #[t,u] ty #[.slice base sLen sCap,x]).run P w = .ok (.slice (some ⟨w.heap.size,0,none⟩) (sLen+n) c) w' /\
   DL C (Hl R Z.next ⟨w.heap.size,0,c*i.size⟩) (Z.add (.cells (lo++ln))) w'/\sLen+n<=c/\c<=9223372036854775807:=by
 obtain⟨hfit,h63⟩:=Th hlt hgr
 have hzero:∀d,(zeroValue el).run P { w with drawn:=d } = .ok z { w with drawn:=d }:=fun d=>by simp[zeroValue,typeInfo,hi,hz]
 let c:=(Question.appendCap (sLen+n) sCap el).cut (w.tape w.drawn (.appendCap (sLen+n) sCap el))
 have hc:sLen+n<=c:=YP _ _ _ _
 let arr:=old.toArray++new.toArray++Builtin.zeroCells z.cells (c-(sLen+n))
 let w1:World:={ w with drawn:=w.drawn+1 }
 have hrun:(Builtin.append_ #[t,u] ty #[.slice base sLen sCap,x]).run P w = .ok (.slice (some ⟨w.heap.size,0,none⟩) (sLen+n) c) (w1.alloc (.cells arr el)):=by
  have hn1:¬(sLen+n<=sCap):=by omega
  have h63':¬(9223372036854775807<((sLen:Int)+(n:Int))):=by omega
  have hfit':¬(281474976710656<Builtin.nextslicecap (sLen+n) sCap*i.bytes):=by omega
  have hgo':(Builtin.firstCells i.size sLen (.slice base sLen sCap)).run P w.drew = .ok old.toArray w.drew:=hgo _
  have hgn':(Builtin.firstCells i.size n x).run P w.drew = .ok new.toArray w.drew:=hgn _
  rcases hnot with rfl|⟨d,rfl⟩
  all_goals simp[Builtin.append_,run_underlying ht,run_underlying hu,sizeOf,typeInfo,zeroValue,hi,hz,hlen,hn1,h63',hfit',Question.forced,hgo',hgn',newRow,c,arr,w1]
 refine⟨_,c,hrun,?_,hc,Yy _ _ _ _ (by omega)⟩
 have hrel1:DL C R Z w1:=hrel.drawn _
 refine hrel1.alloc (FA.of_alloc w1 _) _ _ rfl ?_
 have hcs:=G9 hlo hln
 have hle:Le R (Hl R Z.next ⟨w.heap.size,0,c*i.size⟩):=(EM R Z.next _).le hrel.fresh
 have hlen2:=Ba hcs
 have hmul:(sLen+n)*i.size=sLen*i.size+n*i.size:=PJ _ _ _
 have hml:(sLen+n)*i.size<=c*i.size:=FD _ hc
 refine HI (DV w1 _) (EP hle _ _ hcs) (fun y hy=>?_) (fun k hk=>?_) ?_ ?_ (fun _ _ h=>by omega)
 ·rcases G1.1 hy with h|h
  ·exact h1o y h
  ·exact h1n y h
 ·have:arr=(old++new).toArray++Builtin.zeroCells z.cells (c-(sLen+n)):=by apply GV;simp[arr]
  rw[this,LG (by simpa using hk)]
  simp
 ·simp only[arr,Array.size_append,List.size_toArray,Builtin.zeroCells,Array.size_map,Array.size_range,hzs]
  have:c*i.size=(sLen+n)*i.size+(c-(sLen+n))*i.size:=by rw[<-PJ];congr 1;omega
  omega
 ·show (lo++ln).length<=c*i.size
  rw[<-hlen2,Aw];omega
end Go.Og
namespace Go.Og
variable {P:Program} {G:Nat->Bool} {R:Ren} {e:Bt} {a:Act} {C:Cx} {Z:H} {w:World}
set_option maxHeartbeats 800000 in
theorem Dr {t u ty el:TypeId} {i:TypeInfo} (ht:P.underlying t=some (.slice el)) {du:TypeDesc} (hu:P.underlying u=some du)
  (hnot:du = .string\/∃d,du = .slice d) (hi:P.info? el=some i) {base:Option Addr} {sLen sCap n:Nat} {x:Value} {new:Array Value}
  (hlen:(Builtin.lenOf x).run P w = .ok n w) (hle:sLen+n<=sCap) (hgn:(Builtin.firstCells i.size n x).run P w = .ok new w) {w':World}
  (hst:∀b,base=some b->(storeCells (b.add (sLen*i.size)) new.toList).run P w = .ok () w') (hno:base=none->w'=w) :
  (Builtin.append_ #[t,u] ty #[.slice base sLen sCap,x]).run P w = .ok (.slice base (sLen+n) sCap) w':=by
 cases base with
 | none=>
  obtain rfl:=hno rfl
  rcases hnot with rfl|⟨d,rfl⟩
  all_goals simp[Builtin.append_,run_underlying ht,run_underlying hu,sizeOf,typeInfo,zeroValue,hi,hlen,hle,hgn]
 | some b=>
  have hst':=hst b rfl
  rcases hnot with rfl|⟨d,rfl⟩
  all_goals simp[Builtin.append_,run_underlying ht,run_underlying hu,sizeOf,typeInfo,zeroValue,hi,hlen,hle,hgn,hst']
theorem HO (b:Addr):(storeCells b []).run P w = .ok () w:=rfl
def lR (P:Program) (C:Cx) (R:Ren) (Z:H) (s:Sem Next) (w:World) (v:V) (Z':H):Prop:=
 ∃R' w' x,Gw Z.next R R'/\Z.next<=Z'.next/\DL C R' Z' w'/\(v = .dead\/Ar R' v=some x)/\(s.run P w = .ok (.value x) w'\/(s.run P w = .ok .skip w'/\v = .dead))
theorem T4 (hrel:DL C R Z w) {t u ty el:TypeId} {i:TypeInfo} {z:Value} (ht:P.underlying t=some (.slice el)) {du:TypeDesc} (hu:P.underlying u=some du)
  (hnot:du = .string\/∃d,du = .slice d) (hi:P.info? el=some i) (hz:i.zero=some z) (hzs:z.cells.size=i.size) (hpos:0<i.size)
  {s x:V} {sv xv:Value} (hs:s.live=true->Ar R s=some sv) (hx:x.live=true->Ar R x=some xv) {v:V} {Z':H}
  (h:D7 C.E i.size i.bytes s x Z=some (v,Z')) :
  ∃R' w' y,Gw Z.next R R'/\Z.next<=Z'.next/\DL C R' Z' w'/\Ar R' v=some y/\(Builtin.append_ #[t,u] ty #[sv,xv]).run P w = .ok y w':=by
 unfold D7 at h
 cases hsrc:CY C.E Z i.size x with
 | none=>rw[hsrc]at h;cases h
 | some q=>
  obtain⟨n,new⟩:=q
  rw[hsrc]at h
  simp only at h
  have hxl:x.live=true:=by unfold CY at hsrc;split at hsrc<;>first | rfl | cases hsrc
  have hxc:=hx hxl
  obtain⟨xs,hnc,hnone,hlen,hxlen,hfirst⟩:=NZ (P:=P) hrel hsrc hxc
  have hfn:=hfirst n (AG _)
  rw[I0 (by omega)]at hfn
  have hfd:∀d,(Builtin.firstCells i.size n xv).run P { w with drawn:=d } = .ok xs.toArray { w with drawn:=d }:=fun d=>by
   obtain⟨xs',hnc',_,_,hxlen',hfirst'⟩:=NZ (P:=P) (hrel.drawn d) hsrc hxc
   rw[hnc]at hnc';cases hnc'
   have:=hfirst' n (AG _)
   rwa [I0 (by omega)]at this
  have hnl:=Ba hnc
  split at h
  ·
   have hsv:=hs rfl
   simp only[Ar,AK.injEq]at hsv
   subst hsv
   split at h
   ·rename_i hn0
    cases h
    subst hn0
    have hxs:xs=[]:=Bh (by omega)
    subst hxs
    refine⟨R,w,_,Gw.refl _ _,AG _,hrel,rfl,?_⟩
    have:=Dr (P:=P) (ty:=ty) (base:=none) (sLen:=0) (sCap:=0) ht hu hnot hi hlen (AG _) hfn (w':=w) (fun b e=>by cases e) (fun _=>rfl)
    exact this
   ·rename_i hn0
    split at h
    ·rename_i hg
     cases h
     obtain⟨w',c,hrun,hrel',hc⟩:=RD (P:=P) (ty:=ty) (base:=none) (sLen:=0) (sCap:=0) (old:=[]) (lo:=[]) hrel ht hu hnot hi hz hzs rfl hnc (by simp) hnone (by simp) hxlen hlen (fun d=>by simp[Builtin.firstCells]) hfd (by omega) (by simpa using hg) hpos
     simp only[JI,B2]at hrel' hrun hc
     refine⟨_,w',_,EM _ _ _,D3 _,hrel',HY (Bv _ _ _) (by simp[BI.cap,GU _ hpos];exact hc),?_⟩
     rw[hrun]
     simp[BI.cap,GU _ hpos]
    ·cases h
  ·
   rename_i b off len c
   have hsv:=hs rfl
   obtain⟨j,m,hj,rfl,hex,_⟩:=C3 hsv
   obtain rfl:=hex c rfl
   split at h
   ·rename_i hle
    simp only[Ai]at hle
    split at h
    ·rename_i hn0
     cases h
     subst hn0
     have hxs:xs=[]:=Bh (by omega)
     subst hxs
     exact⟨R,w,_,Gw.refl _ _,AG _,hrel,hsv,Dr (P:=P) (ty:=ty) ht hu hnot hi hlen hle hfn (w':=w) (fun b e=>rfl) (fun e=>by cases e)⟩
    ·split at h
     ·rename_i l hl
      split at h
      ·rename_i hcond
       simp only[AF,Ai]at hcond
       cases h
       have hmul:(len+n)*i.size=len*i.size+n*i.size:=PJ _ _ _
       obtain⟨w',hst,hrel'⟩:=NU (P:=P) hrel (off:=off+len*i.size) hl hnc hcond.2 (by omega) hj
       refine⟨R,w',_,Gw.refl _ _,AG _,hrel',LA hj,Dr (P:=P) (ty:=ty) ht hu hnot hi hlen hle hfn (w':=w') (fun b e=>?_) (fun e=>by cases e)⟩
       cases e
       rw[add_eq,Hg]
       exact hst
      ·cases h
     ·cases h
   ·rename_i hle
    simp only[Ai]at hle
    split at h
    ·rename_i hg
     split at h
     ·rename_i old hold
      cases h
      obtain⟨j',ys,hj',hyc,hyone,hyl,_,hcell⟩:=hrel.readN hold
      rw[hj]at hj';cases hj'
      obtain⟨w',c',hrun,hrel',hc⟩:=RD (P:=P) (ty:=ty) (base:=some ⟨j.blk,j.shift+off,none⟩) (sLen:=len) (sCap:=m) hrel ht hu hnot hi hz hzs hyc hnc hyone hnone hyl hxlen hlen (fun d=>by
       have:=run_firstCells_some (P:=P) { w with drawn:=d } i.size len ⟨j.blk,j.shift+off,none⟩ len m ys hyl (fun k v hk=>hcell k v hk)
       exact this) hfd (by omega) hg hpos
      refine⟨_,w',_,EM _ _ _,D3 _,hrel',HY (Bv _ _ _) (by simp[BI.cap,GU _ hpos];exact hc),?_⟩
      rw[hrun]
      simp[BI.cap,GU _ hpos]
     ·cases h
    ·cases h
  ·
   rename_i b len z'
   have hsv:=hs rfl
   obtain⟨j,m,hj,rfl,_,hop⟩:=C3 hsv
   obtain⟨hm,hlm⟩:=hop z' rfl
   split at h
   ·rename_i hn0
    cases h
    subst hn0
    have hxs:xs=[]:=Bh (by omega)
    subst hxs
    exact⟨R,w,_,Gw.refl _ _,AG _,hrel,hsv,Dr (P:=P) (ty:=ty) ht hu hnot hi hlen hlm hfn (w':=w) (fun b e=>rfl) (fun e=>by cases e)⟩
   ·rename_i hn0
    split at h
    ·rename_i l hl
     split at h
     ·rename_i hcond
      simp only[AF,AQ]at hcond
      obtain⟨⟨⟨hll,hze⟩,hg⟩,hone⟩:=hcond
      subst hze
      cases h
      obtain⟨j',hj',hO,arr,el',lo,hi',hblk,hold,hend,hlen',hf⟩:=hrel.own b _ hl
      rw[hj]at hj';cases hj'
      by_cases hfit:len+n<=m
      ·
       have hmul:(len+n)*i.size=len*i.size+n*i.size:=PJ _ _ _
       have hroom:(len+n)*i.size<=j.endc:=by
        have h1:(len+n)*i.size<=m*i.size:=FD _ hfit
        have h2:m*i.size<=j.endc:=by rw[hm];simpa[BI.cap]using Nat.div_mul_le_self j.endc i.size
        omega
       obtain⟨w',hst,hw,arr',h3,h4,h5⟩:=NX (P:=P) (o:=j.shift+len*i.size) hblk hf hnone (by omega)
       have hle:Le R (Hl R Z.next j):=(EM R Z.next j).le hrel.fresh
       have hrel':DL C (Hl R Z.next j) ((Z.del b).add (.cells (l++new))) w':=by
        refine hrel.rename hl hj ?_ hw.old hw.size hw.os hw.tape hw.output
        refine⟨arr',el',lo,hi',h3,?_,by omega,by rw[Aw];omega,fun o ho=>hf o (by omega)⟩
        intro k v hk
        by_cases hkl:k<l.length
        ·rw[Ay hkl]at hk
         obtain⟨y,hy,ho,hky⟩:=hold k v hk
         refine⟨y,Ch hle _ _ hy,ho,?_⟩
         rw[h5,if_neg (by omega)]
         exact hky
        ·rw[BX (by omega)]at hk
         obtain⟨y,hy,hky⟩:=EE hnc hk
         have hlt:k-l.length<xs.length:=by
          rcases Ad (k-l.length) xs.length with h|h
          ·exact h
          ·rw[Af h]at hky;cases hky
         refine⟨y,Ch hle _ _ hy,hnone y (D5 hky),?_⟩
         rw[h5,if_pos (by omega)]
         rw[show j.shift+k-(j.shift+len*i.size)=k-l.length by omega]
         exact hky
       refine⟨_,w',_,EM _ _ _,D3 _,hrel',HY (Bv _ _ _) (by have hbd:=OH hsv hj;simp only[<-hm]at hbd ⊢;exact⟨hfit,hbd⟩),?_⟩
       have:=Dr (P:=P) (ty:=ty) (base:=some ⟨j.blk,j.shift+0,none⟩) ht hu hnot hi hlen hfit hfn (w':=w') (fun b e=>by cases e;rw[add_eq,L6];exact hst) (fun e=>by cases e)
       rw[this]
       simp[hm]
      ·
       have hrd:PM C.E Z b 0 (len*i.size)=some l:=by
        simp[PM,rd,hl,hll,I0 (Nat.le_of_eq hll)]
       obtain⟨j',ys,hj',hyc,hyone,hyl,_,hcell⟩:=hrel.readN hrd
       rw[hj]at hj';cases hj'
       obtain⟨w',c',hrun,hrel',hc⟩:=RD (P:=P) (ty:=ty) (base:=some ⟨j.blk,j.shift+0,none⟩) (sLen:=len) (sCap:=m) hrel ht hu hnot hi hz hzs hyc hnc hyone hnone hyl hxlen hlen (fun d=>by
        have:=run_firstCells_some (P:=P) { w with drawn:=d } i.size len ⟨j.blk,j.shift+0,none⟩ len m ys hyl (fun k v hk=>hcell k v hk)
        exact this) hfd (by omega) hg hpos
       have hrel'':DL C (Hl R Z.next ⟨w.heap.size,0,c'*i.size⟩) ((Z.del b).add (.cells (l++new))) w':=by
        have:=hrel'.del b
        have hne:¬Z.next=b:=by have:=hrel.next_of_own hl;omega
        simpa[H.del,H.add,drop,hne]using this
       refine⟨_,w',_,EM _ _ _,D3 _,hrel'',HY (Bv _ _ _) (by simp[BI.cap,GU _ hpos];exact hc),?_⟩
       rw[hrun]
       simp[BI.cap,GU _ hpos]
     ·cases h
    ·cases h
  ·rename_i b off len z' _
   have hsv:=hs rfl
   obtain⟨j,m,hj,rfl,_,hop⟩:=C3 hsv
   obtain⟨hm,hlm⟩:=hop z' rfl
   split at h
   ·rename_i hn0
    cases h
    subst hn0
    have hxs:xs=[]:=Bh (by omega)
    subst hxs
    exact⟨R,w,_,Gw.refl _ _,AG _,hrel,hsv,Dr (P:=P) (ty:=ty) ht hu hnot hi hlen hlm hfn (w':=w) (fun b e=>rfl) (fun e=>by cases e)⟩
   ·cases h
  ·cases h
theorem Xc {E:EB} {esz n:Nat} {x:V} {l:List V} (h:CY E Z esz x=some (n,l)):x.live=true:=by
 unfold CY at h
 split at h<;>first | rfl | cases h
theorem lR.value {s:Sem Value} {v:V} {Z':H} (h:∃R' w' x,Gw Z.next R R'/\Z.next<=Z'.next/\DL C R' Z' w'/\Ar R' v=some x/\s.run P w = .ok x w') :
  lR P C R Z (do pure (Next.value (<-s)):Sem Next) w v Z':=by
 obtain⟨R',w',x,h1,h2,h3,h4,h5⟩:=h
 exact⟨R',w',x,h1,h2,h3,.inr h4,.inl (by simp[h5])⟩
theorem Cp.snoc {R:Ren} {k v:V} {e:MapEntry} (hk:Ar R k=some e.key) (hv:Ar R v=some e.val):∀{l:List (V × V)} {es:List MapEntry},Cp R l es->Cp R (l++[(k,v)]) (es++[e])
 | [],[],_=>⟨hk,hv,trivial⟩
 | (_,_)::_,_::_,⟨h1,h2,h3⟩=>⟨h1,h2,Cp.snoc hk hv h3⟩
 | [],_::_,h=>h.elim
 | _::_,[],h=>h.elim
theorem dT (hrel:DL C R Z w) (he:Bn R e a.tmps) (o:Oper) {v:V} {Z':H} (h:Ef C.E (Ac P C.G o.op) e Z=some (v,Z')) :
  lR P C R Z (execOp a.eval o) w v Z':=by
 have hg:=hrel.globOk
 obtain⟨dst,op,ty,pos,after,guard⟩:=o
 simp only at h
 cases op with
 | store t x y=>
  simp only[Ac]at h
  cases hs:GF P t with
  | none=>rw[hs]at h;simp only[Ef]at h;cases h
  | some n=>
   rw[hs]at h
   cases n with
   | zero=>
    simp only[Ef]at h
    split at h
    ·rename_i b off hx hy
     simp only[AK.injEq,Prod.mk.injEq]at h
     obtain⟨rfl,rfl⟩:=h
     obtain⟨j,hj,hev⟩:=IG (a:=a) he hg hx
     obtain⟨l,hl,hevy⟩:=RF (a:=a) he hg hy
     simp only[Az,AK.injEq]at hl;subst hl
     refine⟨R,w,undef,Gw.refl _ _,AG _,hrel,.inl rfl,.inr ⟨?_,rfl⟩⟩
     simp only[execOp]
     unfold Instr.storeAt storeVar
     simp[hev,hevy,Instr.sureAddr,EA hs w,Value.cells,HO]
    ·cases h
   | succ n=>
   simp only[Ef]at h
   split at h
   ·rename_i b off hx
    split at h
    ·rename_i l hl
     split at h
     ·rename_i hcond
      simp only[AF,AQ,Ai]at hcond
      obtain⟨⟨hn,hle⟩,hone⟩:=hcond
      cases h
      obtain⟨j,hj,hev⟩:=IG (a:=a) he hg hx
      have hyl:(CV e (Ak C.G y)).live=true:=by
       cases hy:CV e (Ak C.G y)with
       | dead=>rw[hy]at hone;simp[V.cells,BJ,V.one]at hone
       | _=>rfl
      have hcs:=HZ (ev (a:=a) he hg rfl hyl)
      have hlen:=Ba hcs
      obtain⟨w',hst,hrel'⟩:=NU (P:=P) hrel (off:=off) hl hcs hone (by omega) hj
      refine⟨R,w',undef,Gw.refl _ _,AG _,hrel',.inl rfl,.inr ⟨?_,rfl⟩⟩
      simp only[EX]at hlen
      have hsz:¬((a.eval y).cells.size≠n+1):=by omega
      simp only[execOp]
      unfold Instr.storeAt storeVar
      simp only[Sem.run_bind,hev,Instr.sureAddr,Sem.run_pure,Result.andThen_ok,EA hs w]
      rw[if_neg hsz]
      simp[hst]
     ·cases h
    ·cases h
   ·cases h
 | call c=>
  obtain⟨callee,args,argTypes⟩:=c
  cases callee with
  | value f=>cases f<;>(simp only[Ac,Ef]at h;cases h)
  | invoke r m=>simp only[Ac,Ef]at h;cases h
  | builtin b=>
   have hcall:∀{v Z'},lR P C R Z (builtin b argTypes ty (args.map fun | .const _=>true | _=>false) (args.map a.eval)) w v Z'->lR P C R Z (execOp a.eval ⟨dst,.call ⟨.builtin b,args,argTypes⟩,ty,pos,after,guard⟩) w v Z':=by
    rintro v Z' ⟨R',w',x,h1,h2,h3,h4,h5⟩
    refine⟨R',w',x,h1,h2,h3,h4,?_⟩
    simp only[execOp,resolve,Sem.run_bind,Sem.run_pure,Result.andThen_ok,invoke]
    exact h5
   apply hcall
   simp only[Ac]at h
   obtain⟨args⟩:=args
   obtain⟨argTypes⟩:=argTypes
   generalize (jO (fun | Operand.const _=>true | _=>false) (⟨args⟩:Array Operand))=lits
   unfold KM at h
   split at h
   ·(repeat' split at h)<;>(simp only[Ef]at h;cases h)
   ·(repeat' split at h)<;>(simp only[Ef]at h;cases h)
   ·
    rename_i t u os ox hts has
    simp only at hts has
    subst hts has
    split at h
    ·rename_i el du hu hdu
     split at h
     ·rename_i i hi
      split at h
      ·rename_i z hz
       split at h
       ·simp only[Ef]at h;cases h
       ·rename_i hcond
        simp only[L9,BN,Bool.not_eq_false',bne_eq_false_iff_eq,beq_eq_false_iff_ne]at hcond
        obtain⟨⟨hseq,hpos⟩,hzs⟩:=hcond
        have hnot:du = .string\/∃d,du = .slice d:=by
         cases du<;>first | exact .inl rfl | exact .inr ⟨_,rfl⟩ | cases hseq
        simp only[Ef]at h
        simp only[builtin]
        rw[show jO a.eval ⟨[os,ox]⟩=#[a.eval os,a.eval ox] from by simp]
        apply lR.value
        exact T4 (P:=P) (ty:=ty) hrel hu hdu hnot hi hz hzs (by omega) (fun hl=>ev (a:=a) he hg rfl hl) (fun hl=>ev (a:=a) he hg rfl hl) h
      ·simp only[Ef]at h;cases h
     ·simp only[Ef]at h;cases h
    ·simp only[Ef]at h;cases h
   ·
    rename_i t u od os hts has
    simp only at hts has
    subst hts has
    split at h
    ·rename_i el du hu hdu
     split at h
     ·rename_i i hi
      simp only[Ef]at h
      simp only[builtin]
      rw[show jO a.eval ⟨[od,os]⟩=#[a.eval od,a.eval os] from by simp]
      apply lR.value
      have hsz:(sizeOf el).run P w = .ok i.size w:=by simp[sizeOf,typeInfo,hi]
      have hsrcl:∀{n l},CY C.E Z i.size (CV e (Ak C.G os))=some (n,l)->(CV e (Ak C.G os)).live=true:=Xc
      split at h
      ·rename_i n l hd hsrc
       cases h
       have hdc:=ev (a:=a) he hg hd rfl
       simp only[Ar,AK.injEq]at hdc
       obtain⟨xs,_,_,hlen,_,hfirst⟩:=NZ (P:=P) hrel hsrc (ev (a:=a) he hg rfl (hsrcl hsrc))
       refine⟨R,w,_,Gw.refl _ _,AG _,hrel,rfl,?_⟩
       have h0:=hfirst 0 (CD _)
       rw[<-hdc]
       simp[Builtin.copy_,run_underlying hu,hlen,hsz,h0,goInt]
      ·rename_i b off k z n l hd hsrc
       cases h
       obtain⟨j,_,_,hev⟩:=ER (ev (a:=a) he hg hd rfl)
       obtain⟨xs,_,_,hlen,_,hfirst⟩:=NZ (P:=P) hrel hsrc (ev (a:=a) he hg rfl (hsrcl hsrc))
       refine⟨R,w,_,Gw.refl _ _,AG _,hrel,rfl,?_⟩
       have h0:=hfirst 0 (CD _)
       rw[hev]
       simp[Builtin.copy_,run_underlying hu,hlen,hsz,h0,goInt,HO]
      ·rename_i b off len c n src hd hsrc
       obtain⟨j,m,hj,hev,_⟩:=C3 (ev (a:=a) he hg hd rfl)
       obtain⟨xs,hxc,hxone,hlen,hxlen,hfirst⟩:=NZ (P:=P) hrel hsrc (ev (a:=a) he hg rfl (hsrcl hsrc))
       have hf:=hfirst (Fz n len) (Nat.min_le_left _ _)
       split at h
       ·rename_i h0
        cases h
        rw[h0]at hf
        refine⟨R,w,_,Gw.refl _ _,AG _,hrel,rfl,?_⟩
        rw[hev]
        simp[Builtin.copy_,run_underlying hu,hlen,hsz,h0,hf,goInt,HO]
       ·split at h
        ·rename_i l hl
         split at h
         ·rename_i hcond
          simp only[AF,Ai]at hcond
          cases h
          have htk:=OG hxc (Fz n len*i.size)
          have htl:=Ba hxc
          have hmm:Fz n len*i.size<=n*i.size:=FD _ (Nat.min_le_left _ _)
          obtain⟨w',hst,hrel'⟩:=NU (P:=P) hrel (off:=off) hl htk hcond.2 (by rw[Cl];omega) hj
          refine⟨R,w',_,Gw.refl _ _,AG _,hrel',rfl,?_⟩
          rw[hev]
          simp[Builtin.copy_,run_underlying hu,hlen,hsz,hf,goInt,hst]
         ·cases h
        ·cases h
      ·cases h
     ·simp only[Ef]at h;cases h
    ·simp only[Ef]at h;cases h
   ·simp only[Ef]at h;cases h
   ·simp only[Ef]at h;cases h
   ·simp only[Ef]at h;cases h
 | mapUpdate t x y z=>
  simp only[Ac]at h
  split at h
  ·rename_i kt vt hut
   simp only[Ef]at h
   unfold Q9 at h
   split at h
   ·rename_i b hb
    split at h
    ·rename_i l hl
     split at h
     ·rename_i hc
      simp only[AF]at hc
      split at h
      ·rename_i hf
       simp only[AK.injEq,Prod.mk.injEq]at h
       obtain⟨rfl,rfl⟩:=h
       obtain⟨hlk,fs,hfs⟩:=N1 hc.1
       have hkv:=ev (a:=a) he hg rfl hlk
       have hvv:=ev (a:=a) he hg rfl hc.2
       obtain⟨i,es,clock,hi,hw,hmh⟩:=hrel.mapAt hl
       obtain⟨j,hj,hmv⟩:=Hr (ev (a:=a) he hg hb rfl)
       rw[hi]at hj;cases hj
       have hget:(getObj i.blk).run P w = .ok (.map es clock) w:=by simp[getObj,Sem.run,hw]
       have hck:=Mf (P:=P) hc.1 hkv false w
       have hfa:=Lj hfs hkv w 0 hf hmh
       simp only at hfa
       have hset:∀o,(setObj i.blk o).run P w = .ok () { w with heap:=w.heap.setIfInBounds i.blk o }:=fun o=>by simp[setObj,Sem.run,hw]
       have hlt:i.blk<w.heap.size:=(nN.1 hw).1
       refine⟨R,{ w with heap:=w.heap.setIfInBounds i.blk (.map (es.push { key:=a.eval y,val:=a.eval z,born:=clock }) (clock+1)) },undef,Gw.refl _ _,AG _,hrel.write hl hi ?_ ?_ ?_ rfl rfl rfl,.inl rfl,.inr ⟨?_,rfl⟩⟩
       ·exact⟨es.push { key:=a.eval y,val:=a.eval z,born:=clock },clock+1,by simp[hlt],by simpa using Cp.snoc (e:={ key:=a.eval y,val:=a.eval z,born:=clock }) hkv hvv hmh⟩
       ·intro k hk
        simp[Ne.symm hk]
       ·simp
       ·simp only[execOp]
        unfold Instr.mapUpdate
        simp[hmv,run_underlying hut,hget,hck,Kt hfs,hfa,hset]
      ·cases h
     ·cases h
    ·cases h
   ·cases h
  ·simp only[Ef]at h;cases h
 | makeMap t r=>cases r<;>(simp only[Ac,Ef]at h;cases h)
 | lookup t x y ok=>cases ok<;>simp only[Ac]at h<;>first | (simp only[Ef]at h;cases h;done) | ((repeat' split at h)<;>(simp only[Ef]at h;cases h))
 | move x=>simp only[Ac,Ef]at h;cases h
 | assign x=>simp only[Ac,Ef]at h;cases h
 | makeFunc f x y=>cases f<;>(simp only[Ac,Ef]at h;cases h)
 | _=>simp only[Ac]at h;first | (simp only[Ef]at h;cases h;done) | ((repeat' split at h)<;>(simp only[Ef]at h;cases h))
end Go.Og
namespace Go.Og
inductive AX where
 | normal | exit (id:Nat) | ret
 deriving DecidableEq,Inhabited
def cU (f:Bt->H->Option (AX × Bt × H)):Nat->Bt->H->Option (AX × Bt × H)
 | 0,_,_=>none
 | n+1,e,Z=>match f e Z with
  | none=>none
  | some (.normal,e',Z')=>cU f n e' Z'
  | some (x,e',Z')=>some (x,e',Z')
abbrev AJ:=List BR->List DP->Bt->H->Option (Bt × H)
def P9 (E:EB) (D:BB) (W:AJ) (N:Nat):AC->Bt->H->Option (AX × Bt × H)
 | .skip,e,Z=>some (.normal,e,Z)
 | .region ops,e,Z=>match K0 E D ops e Z with
  | some (e',Z')=>some (.normal,e',Z')
  | none=>none
 | .draw ops ms,e,Z=>match W ops ms e Z with
  | some (e',Z')=>some (.normal,e',Z')
  | none=>none
 | .seq a b,e,Z=>match P9 E D W N a e Z with
  | some (.normal,e',Z')=>P9 E D W N b e' Z'
  | some (x,e',Z')=>some (x,e',Z')
  | none=>none
 | .cond c a b,e,Z=>match CV e c with
  | .bool true=>P9 E D W N a e Z
  | .bool false=>P9 E D W N b e Z
  | _=>none
 | .block id c,e,Z=>match P9 E D W N c e Z with
  | some (.exit j,e',Z')=>if Ag j id then some (.normal,e',Z')else some (.exit j,e',Z')
  | some (x,e',Z')=>some (x,e',Z')
  | none=>none
 | .loop c,e,Z=>cU (P9 E D W N c) N e Z
 | .exit id,e,Z=>some (.exit id,e,Z)
 | .ret,e,Z=>some (.ret,e,Z)
 | .keep ts c,e,Z=>P9 E D W N c (restr ts e) Z
 | .bad,_,_=>none
def Kj (E:EB) (e:Bt) (Z:H):List AR->Option (List V)
 | []=>some []
 | .tmp t::l=>match (GQ e t).live,Kj E e Z l with
  | true,some r=>some (GQ e t::r)
  | _,_=>none
 | .cell t n::l=>match GQ e t,Kj E e Z l with
  | .ptr b off,some r=>match n with
   | none=>match rd E Z b with
    | some cs=>match cs[off]? with
     | some v=>some (v::r)
     | none=>none
    | none=>none
   | some n=>match PM E Z b off n with
    | some cs=>some (.agg cs::r)
    | none=>none
  | _,_=>none
def Hp:List Nat->Bt->H->H
 | [],_,Z=>Z
 | t::l,e,Z=>Hp l e (match GQ e t with
  | .ptr b 0=>Z.del b
  | _=>Z)
def FF:List V->V
 | [v]=>v
 | l => .tup l
def M5:Nat->List V->Bt
 | _,[]=>[]
 | k,v::l=>(k,v)::M5 (k+1) l
def Xh (E:EB) (D:BB) (W:AJ) (N:Nat) (f:Wv) (args:List V) (Z:H):Option (V × H):=
 match P9 E D W N f.body (M5 0 args) Z with
 | some (.exit _,_,_)=>none
 | some (_,e,Z')=>match Kj E e Z' f.results with
  | some l=>some (FF l,Hp f.frees e Z')
  | none=>none
 | none=>none
variable {P:Program} {G:Nat->Bool} {E:EB}
def B5 (P:Program) (E:EB) (G:Nat->Bool) (f:FuncId) (D:List V->H->Option (V × H)):Prop:=
 ∀(C:Cx),C.E=E->C.G=G->∀(R:Ren) (Z:H) (w:World) (args:List V) (xs:List Value) (v:V) (Z':H),D args Z=some (v,Z')->DL C R Z w->Az R args=some xs ->
  Hb P f=true/\Calls P f xs.toArray w fun en w'=>∃R' x,Gw Z.next R R'/\Z.next<=Z'.next/\DL C R' Z' w'/\Ar R' v=some x/\en = .returned x
theorem Bn.put {R:Ren} {e:Bt} {a:Act} (h:Bn R e a.tmps) {dst:Option Nat} (hd:GG a.tmps.size dst=true) {v:V} {x:Value} (hv:v = .dead\/Ar R v=some x):Bn R (Cb e dst v) (a.put dst x).tmps:=by
 cases dst with
 | none=>exact h
 | some d=>
  simp only[GG,CK]at hd
  refine⟨fun k u hk=>?_⟩
  simp only[Cb,look]at hk
  simp only[Act.put,A1]
  by_cases hdk:d=k
  ·subst hdk
   rw[if_pos (by simp)]at hk
   cases hk
   rw[if_pos rfl,if_pos hd]
   exact hv.imp id fun h=>⟨x,rfl,h⟩
  ·rw[if_neg (by simpa using hdk)]at hk
   rw[if_neg hdk]
   exact h.at_ k u hk
theorem GN (ls:List Nat) (e:Bt) (t:Nat) (v:V) (h:look (restr ls e) t=some v):look e t=some v/\Bd ls t=true:=by
 induction ls with
 | nil=>simp[restr,look]at h
 | cons a ls ih=>
  simp only[restr]at h
  simp only[Bd,Bg,AQ]
  cases ha:look e a with
  | none=>rw[ha]at h;exact(ih h).imp id .inr
  | some u=>
   rw[ha]at h
   simp only[look]at h
   by_cases hat:a=t
   ·subst hat
    rw[if_pos (by simp)]at h
    cases h
    exact⟨ha,.inl rfl⟩
   ·rw[if_neg (by simpa using hat)]at h
    exact(ih h).imp id .inr
theorem Bn.restr {R:Ren} {tmps:Array Value} (ts:List Nat) {e:Bt} (h:Bn R e tmps):Bn R (Og.restr ts e) tmps:=
 ⟨fun k v hk=>h.at_ k v (GN ts e k v hk).1⟩
theorem IP (a:Act) (dst:Option Nat) (x:Value):(a.put dst x).tmps.size=a.tmps.size:=by cases dst<;>simp[Act.put]
theorem Es (a:Act) (dst:Option Nat) (x:Value):(a.put dst x).defers=a.defers:=by cases dst<;>rfl
theorem NL {D:BB} (hD:∀f,B5 P E G f (D f)) {C:Cx} (hE:C.E=E) (hG:C.G=G) {R:Ren} {Z:H} {w:World} {e:Bt} {a:Act} (hrel:DL C R Z w) (he:Bn R e a.tmps)
  (o:Oper) {v:V} {Z':H} (h:EO E D (Ac P G o.op) e Z=some (v,Z')) (K:Act->World->Prop) (Q:Exit->Act->World->Prop)
  (hK:∀R' w' x,Gw Z.next R R'->Z.next<=Z'.next->DL C R' Z' w'->(v = .dead\/Ar R' v=some x)->K (a.put o.dst x) w'):o.wp P a w K Q:=by
 subst hE hG
 have hg:=hrel.globOk
 have Ub:∀(h:bA C.E (Ac P C.G o.op) e Z=some (v,Z')),o.wp P a w K Q:=by
  intro h
  unfold bA at h
  split at h
  ·split at h
   ·rename_i v' hp
    cases h
    obtain⟨x,hx,hrun⟩:=Ls (a:=a) (P:=P) he hg o hp w
    unfold Oper.wp
    rw[hrun]
    exact hK R w x (Gw.refl _ _) (AG _) hrel (.inr hx)
   ·cases h
  ·split at h
   ·rename_i v' hp
    cases h
    obtain⟨x,hx,hrun⟩:=Lt (P:=P) hrel he o hp
    unfold Oper.wp
    rw[hrun]
    exact hK R w x (Gw.refl _ _) (AG _) hrel (.inr hx)
   ·cases h
  ·split at h
   ·rename_i v' b hp
    cases h
    obtain⟨x,w',i,hrun,hn,hi,hx,hok⟩:=NO (a:=a) (P:=P) he hg o hp (hrel.fresh _ (AG _)) w
    unfold Oper.wp
    rw[hrun]
    exact hK _ w' x (EM _ _ _) (D3 _) (hrel.alloc hn b i hi hok) (.inr hx)
   ·cases h
  ·obtain⟨R',w',x,h1,h2,h3,h4,h5⟩:=dT (P:=P) hrel he o h
   unfold Oper.wp
   rcases h5 with h5|⟨h5,hv⟩
   ·rw[h5];exact hK R' w' x h1 h2 h3 h4
   ·rw[h5];exact hK R' w' undef h1 h2 h3 (.inl hv)
 have hcallrun:∀(g:FuncId) (args:Array Value),Hb P g=true->(callFunc g args).run P w = .ok (.enter g args) w:=by
  intro g args hok
  unfold Hb at hok
  unfold callFunc
  simp only[Sem.run_bind,run_program,Result.andThen_ok]
  cases hf:P.funcs[g]? with
  | none=>rw[hf]at hok;cases hok
  | some fn=>
   rw[hf]at hok
   simp only[AF,bne_iff_ne]at hok
   have h1:(fn.name == "runtime.NumGoroutine")=false:=by simpa using hok.1
   have h2:fn.body.isNone=false:=by cases hb:fn.body<;>simp_all
   simp only[h1,h2,Cd,if_false,Sem.run_pure]
 have enter:∀(g:FuncId) (vs:List V) (xs:List Value),Az R vs=some xs->D g vs Z=some (v,Z')->(execOp a.eval o).run P w=(callFunc g xs.toArray).run P w->o.wp P a w K Q:=by
  intro g vs xs hvs hd hrun
  obtain⟨hok,hc⟩:=hD g C rfl rfl R Z w vs xs v Z' hd hrel hvs
  unfold Oper.wp
  rw[hrun,hcallrun g _ hok,Oper.upon_enter]
  refine hc.mono ?_
  rintro en w' ⟨R',x,h1,h2,h3,h4,rfl⟩
  exact hK R' w' x h1 h2 h3 (.inr h4)
 cases hop:Ac P C.G o.op with
 | call f args=>
  rw[hop]at h
  simp only[EO]at h
  obtain⟨dst,op,ty,pos,after,guard⟩:=o
  have hsh:∃c,op = .call c/\c.callee = .value (.func f)/\args=c.args.toList.map (Ak C.G):=by
   simp only at hop
   cases op<;>simp only[Ac]at hop<;>(try (first | (cases hop;done) | ((repeat' split at hop)<;>(cases hop;done))))
   ·rename_i fn _ _;cases fn<;>cases hop
   ·rename_i r;cases r<;>cases hop
   ·rename_i ok;cases ok
    ·cases hop
    ·simp only at hop;split at hop<;>cases hop
   ·rename_i c
    refine⟨c,rfl,?_⟩
    obtain⟨callee,cargs,argTypes⟩:=c
    simp only at hop
    split at hop
    ·unfold KM at hop;(repeat' split at hop)<;>cases hop
    ·cases hop;exact⟨rfl,rfl⟩
    ·cases hop
    ·cases hop
  obtain⟨c,rfl,hcal,rfl⟩:=hsh
  split at h
  ·rename_i hl
   have hev:=qO (a:=a) he hg c.args.toList hl
   refine enter f _ _ hev h ?_
   obtain⟨callee,cargs,argTypes⟩:=c
   simp only at hcal
   subst hcal
   simp only[execOp,resolve,Act.eval,Deferred.ofValue,Sem.run_bind,Sem.run_pure,Result.andThen_ok,invoke]
   congr 2
   apply GV
   simp
  ·cases h
 | callv fo args=>
  rw[hop]at h
  simp only[EO]at h
  obtain⟨dst,op,ty,pos,after,guard⟩:=o
  have hsh:∃c t,op = .call c/\c.callee = .value (.tmp t)/\fo = .tmp t/\args=c.args.toList.map (Ak C.G):=by
   simp only at hop
   cases op<;>simp only[Ac]at hop<;>(try (first | (cases hop;done) | ((repeat' split at hop)<;>(cases hop;done))))
   ·rename_i fn _ _;cases fn<;>cases hop
   ·rename_i r;cases r<;>cases hop
   ·rename_i ok;cases ok
    ·cases hop
    ·simp only at hop;split at hop<;>cases hop
   ·rename_i c
    obtain⟨callee,cargs,argTypes⟩:=c
    simp only at hop
    split at hop
    ·unfold KM at hop;(repeat' split at hop)<;>cases hop
    ·cases hop
    ·rename_i t;cases hop;exact⟨_,t,rfl,rfl,rfl,rfl⟩
    ·cases hop
  obtain⟨c,t,rfl,hcal,rfl,rfl⟩:=hsh
  split at h
  ·rename_i g first cap hf
   split at h
   ·rename_i hl
    have hev:=qO (a:=a) he hg c.args.toList hl
    have hfc:=ev (a:=a) (o := .tmp t) he hg (by simpa[Ak]using hf) rfl
    obtain⟨y,z,hy,hz,hfe⟩:=Jl hfc
    refine enter g _ _ (G9 (G9 hy hev) hz) h ?_
    obtain⟨callee,cargs,argTypes⟩:=c
    simp only at hcal
    subst hcal
    simp only[execOp,resolve,hfe,Deferred.ofValue,Sem.run_bind,Sem.run_pure,Result.andThen_ok,invoke]
    congr 2
    apply GV
    simp
   ·cases h
  ·cases h
 | _=>rw[hop]at h;rw[hop]at Ub;exact Ub (by simpa only [EO]using h)
end Go.Og
namespace Go.Og
variable {P:Program} {G:Nat->Bool} {E:EB} {D:BB} {C:Cx}
def PE (C:Cx) (nt:Nat) (Z Z':H) (e':Bt) (R:Ren) (K:Act->World->Prop):Prop:=
 ∀R' a' w',Gw Z.next R R'->Z.next<=Z'.next->DL C R' Z' w'->Bn R' e' a'.tmps->nt<=a'.tmps.size->a'.defers=[]->K a' w'
theorem PE.step {nt:Nat} {Z Z1 Z':H} {e':Bt} {R R1:Ren} {K:Act->World->Prop} (h:PE C nt Z Z' e' R K) (he:Gw Z.next R R1) (hn:Z.next<=Z1.next):PE C nt Z1 Z' e' R1 K:=
 fun R' a' w' h1 h2 h3 h4 h5 h6=>h R' a' w' (he.trans h1 hn) (AN hn h2) h3 h4 h5 h6
theorem HV {n m:Nat} {d:Option Nat} (h:GG n d=true) (hnm:n<=m):GG m d=true:=by
 cases d with
 | none=>rfl
 | some d=>simp only[GG,CK]at h ⊢;omega
theorem DI {R:Ren} {e:Bt} {a:Act} (he:Bn R e a.tmps) {ops:Array Oper} {o:Oper} {g:Option (Nat × Bool)} (hg:OJ ops o.guard=some g) {b:Bool} (h:BZ e g=some b) :
  Region.wanted o (yielded ops a.tmps)=b:=by
 unfold OJ at hg
 cases hgd:o.guard with
 | none=>
  rw[hgd]at hg
  simp only[AK.injEq]at hg
  subst hg
  simp only[BZ,AK.injEq]at h
  subst h
  simp[Region.wanted,hgd]
 | some jb=>
  obtain⟨j,want⟩:=jb
  rw[hgd]at hg
  simp only at hg
  split at hg
  ·rename_i t ht
   simp only[AK.injEq]at hg
   subst hg
   simp only[BZ]at h
   split at h
   ·rename_i c hc
    simp only[AK.injEq]at h
    subst h
    obtain⟨x,hx,hcx⟩:=he.get hc rfl
    cases hcx
    simp[Region.wanted,hgd,yielded,ht,hx]
   ·rename_i hc
    simp only[AK.injEq]at h
    subst h
    obtain⟨x,hx,hcx⟩:=he.get hc rfl
    cases hcx
    simp[Region.wanted,hgd,yielded,ht,hx]
   ·cases h
  ·cases hg
theorem MQ (hD:∀f,B5 P E G f (D f)) (hE:C.E=E) (hG:C.G=G) (nt:Nat) (ops:Array Oper) (Q:Exit->Act->World->Prop) :
  ∀(l:List Oper) (e:Bt) (Z:H) (e':Bt) (Z':H) (R:Ren) (a:Act) (w:World),K0 E D (l.map (BC P G nt ops)) e Z=some (e',Z') ->
   DL C R Z w->Bn R e a.tmps->nt<=a.tmps.size->a.defers=[]->PE C nt Z Z' e' R (Q .normal)->wpList P ops Q l a w
 | [],e,Z,e',Z',R,a,w,h,hrel,he,hsz,hd,hQ=>by
  simp only[L7,K0,AK.injEq,Prod.mk.injEq]at h
  obtain⟨rfl,rfl⟩:=h
  exact hQ R a w (Gw.refl _ _) (AG _) hrel he hsz hd
 | o::l,e,Z,e',Z',R,a,w,h,hrel,he,hsz,hd,hQ=>by
  simp only[B3,K0]at h
  by_cases hgd:∃g,OJ ops o.guard=some g/\GG nt o.dst=true
  ·obtain⟨g,hg,hdst⟩:=hgd
   have hco:BC P G nt ops o=⟨o.dst,Ac P G o.op,g⟩:=by simp only[BC,hg,hdst]
   rw[hco]at h
   simp only at h
   have hdst':=HV hdst hsz
   cases hw:BZ e g with
   | none=>rw[hw]at h;cases h
   | some b=>
    rw[hw]at h
    have hwant:=DI he hg hw
    cases b with
    | false=>
     simp only at h
     unfold wpList
     rw[if_neg (by rw[hwant];simp)]
     exact MQ hD hE hG nt ops Q l _ Z e' Z' R _ w h hrel (he.put hdst' (.inr rfl)) (by rw[IP];exact hsz) (by rw[Es];exact hd) hQ
    | true=>
     simp only at h
     cases h1:EO E D (Ac P G o.op) e Z with
     | none=>rw[h1]at h;cases h
     | some q=>
      obtain⟨v,Z1⟩:=q
      rw[h1]at h
      simp only at h
      unfold wpList
      rw[if_pos hwant]
      left
      refine NL hD hE hG hrel he o h1 _ _ (fun R1 w1 x he1 hn1 hrel1 hv=>?_)
      exact MQ hD hE hG nt ops Q l _ Z1 e' Z' R1 _ w1 h hrel1 ((he.mono (he1.le hrel.fresh)).put hdst' hv) (by rw[IP];exact hsz) (by rw[Es];exact hd) (hQ.step he1 hn1)
  ·have hco:BC P G nt ops o=⟨o.dst,.bad,none⟩:=by
    unfold BC
    split
    ·rename_i g h1 h2;exact(hgd ⟨g,h1,h2⟩).elim
    ·rfl
   rw[hco]at h
   simp[BZ,EO,bA,EK.cls,BU]at h
def Ok (P:Program) (E:EB) (G:Nat->Bool) (W:AJ):Prop:=
 ∀(C:Cx),C.E=E->C.G=G->∀(nt:Nat) (id:Nat) (ops:Array Oper) (e:Bt) (Z:H) (e':Bt) (Z':H),Ns ops (ops.toList.map (BC P G nt ops)) (GK ops)=true->W (ops.toList.map (BC P G nt ops)) (GK ops) e Z=some (e',Z') ->
  ∀(R:Ren) (a:Act) (w:World) (Q:Exit->Act->World->Prop),DL C R Z w->Bn R e a.tmps->nt<=a.tmps.size->a.defers=[]->PE C nt Z Z' e' R (Q .normal)->(Code.region id ops true).wp P Q a w
def AX.exit':AX->Exit
 | .normal => .normal
 | .exit id => .exit id
 | .ret => .ret
theorem kS (hD:∀f,B5 P E G f (D f)) {W:AJ} (hW:Ok P E G W) (hE:C.E=E) (hG:C.G=G) (N nt:Nat) :
  ∀(ac:AC) (c:Code),ac.strip=CB P G nt c->∀(e:Bt) (Z:H) (x:AX) (e':Bt) (Z':H),P9 E D W N ac e Z=some (x,e',Z') ->
   ∀(R:Ren) (a:Act) (w:World) (Q:Exit->Act->World->Prop),DL C R Z w->Bn R e a.tmps->nt<=a.tmps.size->a.defers=[]->PE C nt Z Z' e' R (Q x.exit')->c.wp P Q a w:=by
 intro ac
 induction ac with
 | bad=>intro c _ e Z x e' Z' h;cases h
 | keep ts ac ih=>
  intro c hs e Z x e' Z' h R a w Q hrel he hsz hd hQ
  exact ih c hs _ Z x e' Z' h R a w Q hrel (he.restr ts) hsz hd hQ
 | skip=>
  intro c hs e Z x e' Z' h R a w Q hrel he hsz hd hQ
  cases h
  cases c<;>simp only[AC.strip,CB]at hs<;>(try (cases hs;done))
  ·exact wp_skip (hQ R a w (Gw.refl _ _) (AG _) hrel he hsz hd)
  ·rename_i i o d;cases d<;>(first | (cases hs;done) | (simp only[CB]at hs;split at hs<;>cases hs))
 | exit id=>
  intro c hs e Z x e' Z' h R a w Q hrel he hsz hd hQ
  cases h
  cases c<;>simp only[AC.strip,CB]at hs<;>(try (cases hs;done))
  ·rename_i i o d;cases d<;>(first | (cases hs;done) | (simp only[CB]at hs;split at hs<;>cases hs))
  ·cases hs;exact wp_exit (hQ R a w (Gw.refl _ _) (AG _) hrel he hsz hd)
 | ret=>
  intro c hs e Z x e' Z' h R a w Q hrel he hsz hd hQ
  cases h
  cases c<;>simp only[AC.strip,CB]at hs<;>(try (cases hs;done))
  ·rename_i i o d;cases d<;>(first | (cases hs;done) | (simp only[CB]at hs;split at hs<;>cases hs))
  ·exact wp_ret (hQ R a w (Gw.refl _ _) (AG _) hrel he hsz hd)
 | region ops=>
  intro c hs e Z x e' Z' h R a w Q hrel he hsz hd hQ
  cases c<;>simp only[AC.strip,CB]at hs<;>(try (cases hs;done))
  rename_i i o d
  cases d
  case true=>simp only[CB]at hs;split at hs<;>cases hs
  simp only[CB]at hs
  cases hs
  simp only[P9]at h
  cases h1:K0 E D (o.toList.map (BC P G nt o)) e Z with
  | none=>rw[h1]at h;cases h
  | some q=>
   obtain⟨e1,Z1⟩:=q
   rw[h1]at h
   cases h
   exact wp_region_list (MQ hD hE hG nt o Q o.toList e Z _ _ R a w h1 hrel he hsz hd hQ)
 | draw ops ms=>
  intro c hs e Z x e' Z' h R a w Q hrel he hsz hd hQ
  cases c<;>simp only[AC.strip,CB]at hs<;>(try (cases hs;done))
  rename_i i o d
  cases d<;>simp only[CB]at hs<;>(try (cases hs;done))
  split at hs
  case isFalse=>cases hs
  rename_i hplan
  cases hs
  simp only[P9]at h
  cases h1:W (o.toList.map (BC P G nt o)) (GK o) e Z with
  | none=>rw[h1]at h;cases h
  | some q=>
   obtain⟨e1,Z1⟩:=q
   rw[h1]at h
   cases h
   exact hW C hE hG nt i o e Z _ _ hplan h1 R a w Q hrel he hsz hd hQ
 | seq p q ihp ihq=>
  intro c hs e Z x e' Z' h R a w Q hrel he hsz hd hQ
  cases c<;>simp only[AC.strip,CB]at hs<;>(try (cases hs;done))
  ·rename_i i o d;cases d<;>(first | (cases hs;done) | (simp only[CB]at hs;split at hs<;>cases hs))
  rename_i c1 c2
  simp only[AC.seq.injEq]at hs
  simp only[P9]at h
  cases h1:P9 E D W N p e Z with
  | none=>rw[h1]at h;cases h
  | some r=>
   obtain⟨x1,e1,Z1⟩:=r
   rw[h1]at h
   refine wp_seq (ihp c1 hs.1 e Z x1 e1 Z1 h1 R a w _ hrel he hsz hd ?_)
   cases x1 with
   | normal=>
    simp only at h
    intro R1 a1 w1 hx1 hn1 hrel1 he1 hs1 hd1
    exact ihq c2 hs.2 e1 Z1 x e' Z' h R1 a1 w1 Q hrel1 he1 hs1 hd1 (hQ.step hx1 hn1)
   | exit id=>cases h;exact hQ
   | ret=>cases h;exact hQ
 | cond o p q ihp ihq=>
  intro c hs e Z x e' Z' h R a w Q hrel he hsz hd hQ
  cases c<;>simp only[AC.strip,CB]at hs<;>(try (cases hs;done))
  ·rename_i i o d;cases d<;>(first | (cases hs;done) | (simp only[CB]at hs;split at hs<;>cases hs))
  rename_i co c1 c2
  simp only[AC.cond.injEq]at hs
  obtain⟨rfl,h1,h2⟩:=hs
  simp only[P9]at h
  split at h
  ·rename_i ho
   exact wp_cond_true (KB he (hG ▸ hrel.globOk) ho) (ihp c1 h1 e Z x e' Z' h R a w Q hrel he hsz hd hQ)
  ·rename_i ho
   exact wp_cond_false (KB he (hG ▸ hrel.globOk) ho) (ihq c2 h2 e Z x e' Z' h R a w Q hrel he hsz hd hQ)
  ·cases h
 | block id p ih=>
  intro c hs e Z x e' Z' h R a w Q hrel he hsz hd hQ
  cases c<;>simp only[AC.strip,CB]at hs<;>(try (cases hs;done))
  ·rename_i i o d;cases d<;>(first | (cases hs;done) | (simp only[CB]at hs;split at hs<;>cases hs))
  rename_i i c1
  simp only[AC.block.injEq]at hs
  obtain⟨rfl,hs⟩:=hs
  simp only[P9]at h
  cases h1:P9 E D W N p e Z with
  | none=>rw[h1]at h;cases h
  | some r=>
   obtain⟨x1,e1,Z1⟩:=r
   rw[h1]at h
   refine wp_block (ih c1 hs e Z x1 e1 Z1 h1 R a w _ hrel he hsz hd ?_)
   cases x1 with
   | normal=>cases h;exact hQ
   | ret=>cases h;exact hQ
   | exit j=>
    simp only at h
    split at h
    ·rename_i hj
     simp only[AQ]at hj
     cases h
     intro R1 a1 w1 h1 h2 h3 h4 h5 h6
     show Exit.inBlock id Q (.exit j) a1 w1
     simp only[Exit.inBlock]
     rw[if_pos hj]
     exact hQ R1 a1 w1 h1 h2 h3 h4 h5 h6
    ·rename_i hj
     simp only[AQ]at hj
     cases h
     intro R1 a1 w1 h1 h2 h3 h4 h5 h6
     show Exit.inBlock id Q (.exit j) a1 w1
     simp only[Exit.inBlock]
     rw[if_neg hj]
     exact hQ R1 a1 w1 h1 h2 h3 h4 h5 h6
 | loop p ih=>
  intro c hs e Z x e' Z' h R a w Q hrel he hsz hd hQ
  cases c<;>simp only[AC.strip,CB]at hs<;>(try (cases hs;done))
  ·rename_i i o d;cases d<;>(first | (cases hs;done) | (simp only[CB]at hs;split at hs<;>cases hs))
  rename_i c1
  simp only[AC.loop.injEq]at hs
  simp only[P9]at h
  have key:∀(n:Nat) (e:Bt) (Z:H) (R:Ren) (a:Act) (w:World),cU (P9 E D W N p) n e Z=some (x,e',Z')->DL C R Z w->Bn R e a.tmps->nt<=a.tmps.size->a.defers=[] ->
    PE C nt Z Z' e' R (Q x.exit')->Code.rounds P c1 Q n a w:=by
   intro n
   induction n with
   | zero=>intro e Z R a w h;cases h
   | succ n ihn=>
    intro e Z R a w h hrel he hsz hd hQ
    simp only[cU]at h
    cases h1:P9 E D W N p e Z with
    | none=>rw[h1]at h;cases h
    | some r=>
     obtain⟨x1,e1,Z1⟩:=r
     rw[h1]at h
     rw[rounds_succ]
     refine ih c1 hs e Z x1 e1 Z1 h1 R a w _ hrel he hsz hd ?_
     cases x1 with
     | normal=>
      simp only at h
      intro R1 a1 w1 hx1 hn1 hrel1 he1 hs1 hd1
      exact ihn e1 Z1 R1 a1 w1 h hrel1 he1 hs1 hd1 (hQ.step hx1 hn1)
     | exit id=>cases h;exact hQ
     | ret=>cases h;exact hQ
  exact wp_loop_rounds N (key N e Z R a w h hrel he hsz hd hQ)
theorem NB {R:Ren} {Z:H} {w:World} {e:Bt} {tmps:Array Value} (hrel:DL C R Z w) (he:Bn R e tmps):∀(rs:List ResultVar) (as:List AR) (l:List V),GR P rs=some as->Kj C.E e Z as=some l ->
  ∃xs,Az R l=some xs/\(rs.mapM (m:=Sem) fun
   | .tmp t=>pure (tmps.getD t undef)
   | .cell a t=>do loadVar t (<-asAddr (tmps.getD a undef))).run P w = .ok xs w
 | [],as,l,hc,h=>by
  simp only[GR,AK.injEq]at hc;subst hc
  simp only[Kj,AK.injEq]at h;subst h
  exact⟨[],rfl,rfl⟩
 | r::rs,as,l,hc,h=>by
  have hget:∀(t:Nat) (v:V),GQ e t=v->v.live=true->Ar R v=some (tmps.getD t undef):=by
   intro t v hv hl
   obtain⟨x,hx,hc⟩:=he.get hv hl
   rw[hc,D8,hx];rfl
  simp only[GR]at hc
  cases hr:OI P r with
  | none=>rw[hr]at hc;cases hc
  | some ar=>
   cases hrs:GR P rs with
   | none=>rw[hr,hrs]at hc;cases hc
   | some as'=>
    rw[hr,hrs]at hc
    simp only[AK.injEq]at hc
    subst hc
    cases r with
    | tmp t=>
     simp only[OI,AK.injEq]at hr
     subst hr
     simp only[Kj]at h
     split at h
     ·rename_i l' hl hrest
      cases h
      obtain⟨xs,h1,h2⟩:=NB hrel he rs as' l' hrs hrest
      refine⟨_,BM.2 ⟨_,_,hget t _ rfl hl,h1,rfl⟩,?_⟩
      rw[RZ]
      simp only[Sem.run_bind,Sem.run_pure,Result.andThen_ok,h2]
     ·cases h
    | cell t ty=>
     simp only[OI]at hr
     cases hs:GW P ty with
     | none=>rw[hs]at hr;cases hr
     | some n=>
      rw[hs]at hr
      simp only[AK.injEq]at hr
      subst hr
      simp only[Kj]at h
      split at h
      ·rename_i b off l' hb hrest
       obtain⟨j,hj,hev⟩:=It (hget t _ hb rfl)
       obtain⟨xs,h1,h2⟩:=NB hrel he rs as' l' hrs hrest
       obtain⟨hagg,hsz⟩:=J3 (P:=P) hs w
       split at h
       ·split at h
        ·rename_i cs hrd
         split at h
         ·rename_i v hk
          cases h
          obtain⟨i,arr,el,fr,hi,hblk,hold⟩:=hrel.read hrd
          rw[hj]at hi;cases hi
          obtain⟨y,hy,_,hay⟩:=hold off v hk
          refine⟨_,BM.2 ⟨_,_,hy,h1,rfl⟩,?_⟩
          have hcell:w.cell? ⟨j.blk,j.shift+off,none⟩=some y:=by rw[NM hblk];exact hay
          have hla:(do loadVar ty (<-asAddr (tmps.getD t undef)):Sem Value).run P w = .ok y w:=by
           simp only[Sem.run_bind,hev,asAddr,Sem.run_pure,Result.andThen_ok,loadVar,hagg,Option.isSome_none,Cd,if_false,run_load,hcell]
          rw[RZ]
          refine(Sem.run_bind P w _ _).trans ?_
          refine(congrArg (fun r=>Result.andThen r _) hla).trans ?_
          simp only[Sem.run_bind,h2,Sem.run_pure,Result.andThen_ok]
         ·cases h
        ·cases h
       ·rename_i n
        split at h
        ·rename_i cs hrd
         cases h
         obtain⟨i,ys,hi,hyc,_,hlen,_,hcell⟩:=hrel.readN hrd
         rw[hj]at hi;cases hi
         refine⟨_,BM.2 ⟨_,_,DX hyc,h1,rfl⟩,?_⟩
         have hl:=run_loadCells_list (P:=P) w ⟨j.blk,j.shift+off,none⟩ ys hcell
         rw[hlen]at hl
         have hla:(do loadVar ty (<-asAddr (tmps.getD t undef)):Sem Value).run P w = .ok (.agg ys.toArray) w:=by
          simp only[Sem.run_bind,hev,asAddr,Sem.run_pure,Result.andThen_ok,loadVar,hagg,Option.isSome_some,if_true,hsz n rfl,hl]
         rw[RZ]
         refine(Sem.run_bind P w _ _).trans ?_
         refine(congrArg (fun r=>Result.andThen r _) hla).trans ?_
         simp only[Sem.run_bind,h2,Sem.run_pure,Result.andThen_ok]
        ·cases h
      ·cases h
theorem Kr {R:Ren} {w:World}:∀(ts:List Nat) (e:Bt) (Z:H),DL C R Z w->DL C R (Hp ts e Z) w/\(Hp ts e Z).next=Z.next
 | [],_,_,h=>⟨h,rfl⟩
 | t::ts,e,Z,h=>by
  simp only[Hp]
  split
  ·obtain⟨h1,h2⟩:=Kr ts e _ (h.del _)
   exact⟨h1,h2⟩
  ·exact Kr ts e Z h
theorem Ue {R:Ren} {l:List V} {xs:List Value} (h:Az R l=some xs):Ar R (FF l)=some (if h:xs.toArray.size=1 then xs.toArray[0] else .tuple xs.toArray):=by
 match l,xs,h with
 | [],xs,h=>simp only[Az,AK.injEq]at h;subst h;rfl
 | [v],xs,h=>
  obtain⟨x,ys,hx,hy,rfl⟩:=BM.1 h
  simp only[Az,AK.injEq]at hy;subst hy
  simp[FF,hx]
 | u::v::l,xs,h=>
  have hl:=Ba h
  rw[dif_neg (by simp at hl ⊢;omega)]
  exact Jk h
theorem Xg (hD:∀f,B5 P E G f (D f)) {W:AJ} (hW:Ok P E G W) (N:Nat) {f:FuncId} {fn:Func} (hf:P.funcs[f]? = some fn) {af af':Wv} (hc:Lo P G fn=some af') (hs:af.strip=af')
  (hok:Hb P f=true):B5 P E G f (Xh E D W N af):=by
 intro C hE hG R Z w args xs v Z' h hrel hxs
 refine⟨hok,?_⟩
 unfold Lo at hc
 cases hb:fn.body with
 | none=>rw[hb]at hc;cases hc
 | some c=>
  cases hr:GR P fn.results.toList with
  | none=>rw[hb,hr]at hc;cases hc
  | some rs=>
   rw[hb,hr]at hc
   simp only[AK.injEq]at hc
   rw[<-hs]at hc
   obtain⟨nt,res,frees,body⟩:=af
   simp only[Wv.strip,Wv.mk.injEq]at hc
   obtain⟨rfl,rfl,_,hbody⟩:=hc
   unfold Xh at h
   simp only at h
   have hlen:=Ba hxs
   refine calls_of_wp hf hb ?_
   have hsz:fn.ntmps<=(xs.toArray++G2 (fn.ntmps-xs.toArray.size) undef).size:=by simp;omega
   have harg:∀(l:List V) (ys:List Value) (k:Nat),Az R l=some ys->∀(t:Nat) (v:V),look (M5 k l) t=some v->∃y,k<=t/\ys[t-k]? = some y/\Ar R v=some y:=by
    intro l
    induction l with
    | nil=>intro ys k _ t v h;simp[M5,look]at h
    | cons u l ih=>
     intro ys k hc t v h
     obtain⟨y,zs,hy,hz,rfl⟩:=BM.1 hc
     simp only[M5,look]at h
     by_cases hk:k=t
     ·subst hk
      rw[if_pos (by simp)]at h
      cases h
      exact⟨y,AG _,by simp,hy⟩
     ·rw[if_neg (by simpa using hk)]at h
      obtain⟨q,h1,h2,h3⟩:=ih zs (k+1) hz t v h
      exact⟨q,by omega,by rw[show t-k=(t-(k+1))+1 by omega,CN];exact h2,h3⟩
   have he0:Bn R (M5 0 args) (xs.toArray++G2 (fn.ntmps-xs.toArray.size) undef):=by
    refine⟨fun k u hk=>?_⟩
    obtain⟨y,_,h2,h3⟩:=harg args xs 0 hxs k u hk
    refine .inr ⟨y,?_,h3⟩
    rw[L5]at h2
    have hlt:k<xs.length:=by
     rcases Ad k xs.length with h|h
     ·exact h
     ·rw[Af h]at h2;cases h2
    rw[LG (by simpa using hlt)]
    simpa using h2
   have fin:∀{x:AX} {e:Bt} {Z1:H},P9 E D W N body (M5 0 args) Z=some (x,e,Z1)->(x = .normal\/x = .ret) ->
     (match Kj E e Z1 rs with | some l=>some (FF l,Hp frees e Z1) | none=>none)=some (v,Z') ->
     c.wp P (bodyPost P fn fun en w'=>∃R' x,Gw Z.next R R'/\Z.next<=Z'.next/\DL C R' Z' w'/\Ar R' v=some x/\en = .returned x)
      { tmps:=xs.toArray++G2 (fn.ntmps-xs.toArray.size) undef,defers:=[] } w:=by
    intro x e Z1 hden hx hres
    cases hrv:Kj E e Z1 rs with
    | none=>rw[hrv]at hres;cases hres
    | some l=>
     rw[hrv]at hres
     simp only[AK.injEq,Prod.mk.injEq]at hres
     obtain⟨rfl,rfl⟩:=hres
     refine kS hD hW hE hG N fn.ntmps body c hbody.symm _ Z x e Z1 hden R _ w _ hrel he0 hsz rfl ?_
     intro R1 a1 w1 hx1 hn1 hrel1 he1 _ hd1
     obtain⟨ys,hyc,hyrun⟩:=NB (P:=P) hrel1 he1 fn.results.toList _ l hr (hE ▸ hrv)
     obtain⟨hfree,hfn⟩:=Kr frees e Z1 hrel1
     have hres:(results fn a1.tmps).run P w1 = .ok (if h:ys.toArray.size=1 then ys.toArray[0] else .tuple ys.toArray) w1:=by
      unfold results
      refine(Sem.run_bind P w1 _ _).trans ?_
      rw[MC,Sem.run_map]
      refine(congrArg (fun r=>Result.andThen (Result.andThen r _) _) hyrun).trans rfl
     have hR:∃R' x,Gw Z.next R R'/\Z.next<=(Hp frees e Z1).next/\DL C R' (Hp frees e Z1) w1/\Ar R' (FF l)=some x /\
       Ending.returned (if h:ys.toArray.size=1 then ys.toArray[0] else .tuple ys.toArray) = .returned x:=
      ⟨R1,_,hx1,by rw[hfn];exact hn1,hfree,Ue hyc,rfl⟩
     rcases hx with rfl|rfl
     ·exact⟨hd1,_,hres,hR⟩
     ·exact⟨hd1,_,hres,hR⟩
   split at h
   ·cases h
   ·rename_i x e Z1 hne hden
    refine fin hden ?_ h
    cases x with
    | normal=>exact .inl rfl
    | ret=>exact .inr rfl
    | exit id=>exact(hne id rfl).elim
   ·cases h
end Go.Og
