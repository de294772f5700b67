/- The second evaluator: typed, with the blocks that stay within one call kept apart, and by continuations. Plain definitions. -/
import Derived.Test.YtpcnmmbpgeahfaaGreatDoorOgW
namespace Go.Og

abbrev Ans := Option (V × H)
noncomputable section

/-! ### what is quick for the kernel -/
def lookF {α : Type} (l : List (Nat × α)) (id : Nat) : Option α :=
  List.rec none (fun p _ r => Bool.rec r (some p.2) (Nat.beq p.1 id)) l
def drop1 {α : Type} (l : List (Nat × α)) (id : Nat) : List (Nat × α) :=
  List.rec [] (fun p l r => Bool.rec (p :: r) l (Nat.beq p.1 id)) l
def nthF (l : List V) : Nat → Option V :=
  List.rec (fun _ => none) (fun a _ ih n => Nat.rec (some a) (fun m _ => ih m) n) l
/-- The list without that number, made anew. -/
def forceD (l : List (Nat × Blk)) (id : Nat) : (List (Nat × Blk) → Ans) → Ans :=
  List.rec (fun k => k []) (fun p _ ih k => ih fun l' => Bool.rec (k (p :: l')) (k l') (Nat.beq p.1 id)) l

def condK (c : Bool) (a b : Ans) : Ans := match c with
  | true => a
  | false => b
def chk (c : Bool) (a : Ans) : Ans := match c with
  | true => a
  | false => none
def gK (x : Option V) (κ : V → Ans) : Ans := match x with
  | some v => κ v
  | none => none
def callK (x : Ans) (κ : V → H → Ans) : Ans := match x with
  | some (v, σ) => κ v σ
  | none => none
def joinB (f : Bool → H → Ans) (g : (Bool → H → Ans) → Ans) : Ans := g f

/-! ### numbers -/
def maxN : IntKind → Nat
  | .i8 => 127 | .i16 => 32767 | .i32 => 2147483647 | .i64 => 9223372036854775807
  | .u8 => 255 | .u16 => 65535 | .u32 => 4294967295 | .u64 => 18446744073709551615
def negN : IntKind → Nat
  | .i8 => 128 | .i16 => 32768 | .i32 => 2147483648 | .i64 => 9223372036854775808
  | .u8 => 0 | .u16 => 0 | .u32 => 0 | .u64 => 0
def inK (k : IntKind) (n : Int) : Bool := match n with
  | .ofNat m => Nat.ble m (maxN k)
  | .negSucc m => Nat.blt m (negN k)
def wrapF (k : IntKind) (n : Int) : Int := match inK k n with
  | true => n
  | false => k.wrap n
def minF (a b : Int) : Int := if b < a then b else a
def maxF (a b : Int) : Int := if b > a then b else a
def ltF (a b : Int) : Bool := match a, b with
  | .ofNat m, .ofNat n => Nat.blt m n
  | .negSucc m, .negSucc n => Nat.blt n m
  | .negSucc _, .ofNat _ => true
  | .ofNat _, .negSucc _ => false
def leF (a b : Int) : Bool := match a, b with
  | .ofNat m, .ofNat n => Nat.ble m n
  | .negSucc m, .negSucc n => Nat.ble n m
  | .negSucc _, .ofNat _ => true
  | .ofNat _, .negSucc _ => false
def addF (k : IntKind) (a b : Int) : Int := wrapF k (Int.add a b)
def subF (k : IntKind) (a b : Int) : Int := wrapF k (Int.sub a b)
def mulF (k : IntKind) (a b : Int) : Int := wrapF k (Int.mul a b)
def quoF (k : IntKind) (a b : Int) : Int := wrapF k (Int.tdiv a b)
def shlF (k : IntKind) (a : Int) (n : Nat) : Int := wrapF k (Int.mul a (Int.ofNat (Nat.pow 2 (Nat.min n k.bits))))
def shrF (k : IntKind) (a : Int) (n : Nat) : Int := match a with
  | .ofNat m => .ofNat (Nat.div m (Nat.pow 2 (Nat.min n k.bits)))
  | .negSucc m => Int.fdiv (.negSucc m) (2 ^ (Nat.min n k.bits))
/-- Both are numbers from 0 on, within half of the kind. -/
def smallK (k : IntKind) (a b : Int) (f : Nat → Nat → Nat) (g : Int) : Int := match a, b with
  | .ofNat m, .ofNat n => match Nat.ble m (maxN k) && Nat.ble n (maxN k) with
    | true => .ofNat (f m n)
    | false => g
  | _, _ => g
def andF (k : IntKind) (a b : Int) : Int := smallK k a b Nat.land (k.wrap (BitVec.ofInt k.bits a &&& BitVec.ofInt k.bits b).toNat)
def orF (k : IntKind) (a b : Int) : Int := smallK k a b Nat.lor (k.wrap (BitVec.ofInt k.bits a ||| BitVec.ofInt k.bits b).toNat)
def xorF (k : IntKind) (a b : Int) : Int := smallK k a b Nat.xor (k.wrap (BitVec.ofInt k.bits a ^^^ BitVec.ofInt k.bits b).toNat)
def andNotF (k : IntKind) (a b : Int) : Int := k.wrap (BitVec.ofInt k.bits a &&& ~~~BitVec.ofInt k.bits b).toNat
def negF (k : IntKind) (a : Int) : Int := wrapF k (Int.sub 0 a)
def notF (k : IntKind) (a : Int) : Int := k.wrap (BitVec.ofInt k.bits (if k.signed then -1 else k.max) ^^^ BitVec.ofInt k.bits a).toNat

def nnK (b : Int) (κ : Nat → Ans) : Ans := match b with
  | .ofNat n => κ n
  | .negSucc _ => none
def nzK (b : Int) (a : Ans) : Ans := match b with
  | .ofNat 0 => none
  | _ => a
def intX (op : BinOp) (k k' : IntKind) (a b : Int) (κ : V → Ans) : Ans :=
  match op with
  | .shl => nnK b fun n => κ (.int k (shlF k a n))
  | .shr => nnK b fun n => κ (.int k (shrF k a n))
  | op => if k = k' then
      match op with
      | .add => κ (.int k (addF k a b))
      | .sub => κ (.int k (subF k a b))
      | .mul => κ (.int k (mulF k a b))
      | .quo => nzK b (κ (.int k (quoF k a b)))
      | .rem => nzK b (κ (.int k (Int.tmod a b)))
      | .and => κ (.int k (andF k a b))
      | .or => κ (.int k (orF k a b))
      | .xor => κ (.int k (xorF k a b))
      | .andNot => κ (.int k (andNotF k a b))
      | .eql => κ (.bool (eqF a b))
      | .neq => κ (.bool (not (eqF a b)))
      | .lss => κ (.bool (ltF a b))
      | .leq => κ (.bool (leF a b))
      | .gtr => κ (.bool (ltF b a))
      | .geq => κ (.bool (leF b a))
      | _ => none
    else none
def catK (a b : BS) (κ : BS → Ans) : Ans := match Nat.ble (Nat.add a.len b.len) 1000000000000 with
  | true => κ (a.cat b)
  | false => none
def ltS (a b : BS) : Bool := Op.bytesLess a.toList b.toList
def strX (op : BinOp) (a b : BS) (κ : V → Ans) : Ans :=
  match op with
  | .add => catK a b fun s => κ (.str s)
  | .eql => κ (.bool (a.beq b))
  | .neq => κ (.bool (not (a.beq b)))
  | .lss => κ (.bool (ltS a b))
  | .leq => κ (.bool (ltS a b || a.beq b))
  | .gtr => κ (.bool (not (ltS a b || a.beq b)))
  | .geq => κ (.bool (not (ltS a b)))
  | _ => none
def eqK (t : ETag) (x y : V) (κ : Bool → Ans) : Ans := match eqTag t x y with
  | some b => κ b
  | none => none
def eqX (op : BinOp) (t : ETag) (x y : V) (κ : V → Ans) : Ans := match op with
  | .eql => eqK t x y fun b => κ (.bool b)
  | .neq => eqK t x y fun b => κ (.bool (not b))
  | _ => none
def binX (op : BinOp) (t : ETag) (x y : V) (κ : V → Ans) : Ans :=
  match t with
  | .none => match x, y with
    | .int k a, .int k' b => intX op k k' a b κ
    | .str a, .str b => strX op a b κ
    | _, _ => none
  | t => eqX op t x y κ
def unX (op : UnOp) (x : V) (κ : V → Ans) : Ans :=
  match op, x with
  | .neg, .int k n => κ (.int k (negF k n))
  | .xor, .int k n => κ (.int k (notF k n))
  | .not, .bool b => κ (.bool (not b))
  | _, _ => none

/-! ### types -/
inductive XTy where
  | any | int (k : IntKind) | bool | str | ptr | one
  | agg (l : List XTy)
  | tup (l : List XTy)
  deriving Inhabited
def rtInt (k : IntKind) (v : V) (κ : Int → Ans) : Ans := match v with
  | .int k' n => if k = k' then κ n else none
  | _ => none
def rtBool (v : V) (κ : Bool → Ans) : Ans := match v with
  | .bool b => κ b
  | _ => none
def rtStr (v : V) (κ : BS → Ans) : Ans := match v with
  | .str s => κ s
  | _ => none
def rtPtr (v : V) (κ : Nat → Nat → Ans) : Ans := match v with
  | .ptr b o => κ b o
  | _ => none
def rtAgg (v : V) (κ : List V → Ans) : Ans := match v with
  | .agg l => κ l
  | _ => none
def rtTup (v : V) (κ : List V → Ans) : Ans := match v with
  | .tup l => κ l
  | _ => none
def rtCons (l : List V) (κ : V → List V → Ans) : Ans := match l with
  | v :: l => κ v l
  | [] => none
def rtNil (l : List V) (a : Ans) : Ans := match l with
  | [] => a
  | _ :: _ => none
def rtOne (v : V) (a : Ans) : Ans := match v.one with
  | true => a
  | false => none
mutual
def rt : XTy → V → (V → Ans) → Ans
  | .any, v, κ => κ v
  | .int k, v, κ => rtInt k v fun n => κ (.int k n)
  | .bool, v, κ => rtBool v fun b => κ (.bool b)
  | .str, v, κ => rtStr v fun s => κ (.str s)
  | .ptr, v, κ => rtPtr v fun b o => κ (.ptr b o)
  | .one, v, κ => rtOne v (κ v)
  | .agg ts, v, κ => rtAgg v fun l => rts ts l fun l' => κ (.agg l')
  | .tup ts, v, κ => rtTup v fun l => rts ts l fun l' => κ (.tup l')
def rts : List XTy → List V → (List V → Ans) → Ans
  | [], l, κ => rtNil l (κ [])
  | t :: ts, l, κ => rtCons l fun v l' => rt t v fun v' => rts ts l' fun l'' => κ (v' :: l'')
end

/-! ### operands -/
abbrev Qs := List (Nat × (Nat × Nat))
abbrev Rg := List (Nat × List V)
def getK (e : Env) (x : AO) (κ : V → Ans) : Ans := match x with
  | .con v => match v.live with
    | true => κ v
    | false => none
  | .tmp t => match look e t with
    | some v => κ v
    | none => none
def getsK (e : Env) : List AO → (List V → Ans) → Ans
  | [], κ => κ []
  | x :: l, κ => getK e x fun v => getsK e l fun vs => κ (v :: vs)
def getoK (e : Env) (x : Option AO) (κ : Option V → Ans) : Ans := match x with
  | none => κ none
  | some x => getK e x fun v => κ (some v)
def partsK (e : Env) : List (Nat × Nat × AO) → (List (Nat × Nat × V) → Ans) → Ans
  | [], κ => κ []
  | (o, s, x) :: l, κ => getK e x fun v => partsK e l fun r => κ ((o, s, v) :: r)
def markX (q : Qs) : AO → Option (Nat × Nat)
  | .tmp t => look q t
  | .con _ => none

/-- A bound of a slice expression. -/
def boundK (o : Option V) (d : Nat) (κ : Nat → Ans) : Ans := match o with
  | none => κ d
  | some v => match v with
    | .int _ n => nnK n κ
    | _ => none
def sliceStrX (s : BS) (lo hi : Option V) (κ : BS → Ans) : Ans :=
  boundK hi s.len fun h => boundK lo 0 fun l => chk (Nat.ble l h && Nat.ble h s.len) (κ (s.sub l h))
def idxStrX (s : BS) (i : Int) (κ : Int → Ans) : Ans :=
  nnK i fun n => chk (Nat.blt n s.len) (κ (Int.ofNat (s.get n)))
def slenK (v : V) (κ : Nat → Ans) : Ans := match v with
  | .nils => κ 0
  | .sl _ _ n _ => κ n
  | .sle _ _ _ _ => κ 0
  | _ => none
def iaddrSK (esz : Nat) (v : V) (i : Int) (κ : Nat → Nat → Ans) : Ans := match v with
  | .sl b off len _ => nnK i fun n => chk (Nat.blt n len) (κ b (Nat.add off (Nat.mul n esz)))
  | _ => none
def nthK (l : List V) (n : Nat) (κ : V → Ans) : Ans := match nthF l n with
  | some v => κ v
  | none => none
/-- l's cells from a place on, so many. -/
def subK (l : List V) (off n : Nat) (κ : List V → Ans) : Ans := match Nat.ble (Nat.add off n) l.length with
  | true => κ ((l.drop off).take n)
  | false => none

/-! ### memory -/
def rdK (E : List (Nat × Blk)) (σ : H) (b : Nat) (κ : List V → Ans) : Ans := match lookF σ.bl b with
  | some (.cells l) => κ l
  | some _ => none
  | none => match lookF E b with
    | some (.cells l) => κ l
    | _ => none
def ldK (E : List (Nat × Blk)) (σ : H) (b off : Nat) (κ : V → Ans) : Ans := rdK E σ b fun l => nthK l off κ
def ldnK (E : List (Nat × Blk)) (σ : H) (b off n : Nat) (κ : List V → Ans) : Ans := rdK E σ b fun l => subK l off n κ
def newB (σ : H) (b : Blk) : H := ⟨σ.next + 1, (σ.next, b) :: σ.bl⟩
def setF (σ : H) (b : Nat) (c : Blk) : H := ⟨σ.next, (b, c) :: drop1 σ.bl b⟩
def stK (n b off : Nat) (v : V) (σ : H) (κ : H → Ans) : Ans := match lookF σ.bl b with
  | some (.cells l) => chk (Nat.beq v.cells.length n && Nat.ble (Nat.add off n) l.length && allOne v.cells) (κ (setF σ b (.cells (spl l off v.cells))))
  | _ => none
def srcK (E : List (Nat × Blk)) (σ : H) (esz : Nat) (v : V) (κ : Nat → List V → Ans) : Ans := match v with
  | .nils => κ 0 []
  | .sle _ _ _ _ => κ 0 []
  | .sl b off len _ => rdK E σ b fun l => subK l off (len * esz) fun l' => κ len l'
  | .str s => match Nat.beq esz 1 with
    | true => κ s.len (ints s.toList)
    | false => none
  | _ => none
def appK (E : List (Nat × Blk)) (esz bytes : Nat) (s x : V) (σ : H) (κ : V → H → Ans) : Ans :=
  srcK E σ esz x fun n new =>
    match s with
    | .sl b 0 len (.op e) => match n with
      | 0 => κ s σ
      | n => match lookF σ.bl b with
        | some (.cells l) => chk (Nat.beq l.length (len * esz) && Nat.beq e esz && growable (len + n) bytes && allOne new)
            (forceD σ.bl b fun bl' => κ (.sl σ.next 0 (len + n) (.op esz)) ⟨σ.next + 1, (σ.next, .cells (l ++ new)) :: bl'⟩)
        | _ => none
    | s => callK (appendV E esz bytes s x σ) κ
def toStrK (E : List (Nat × Blk)) (σ : H) (v : V) (κ : BS → Ans) : Ans := match v with
  | .str _ => none
  | v => srcK E σ 1 v fun _ l => match bytesOf l with
    | some s => κ (BS.ofList s)
    | none => none
def fillK (l : List (Nat × Nat × V)) (z : List V) (κ : List V → Ans) : Ans := match fillA l z with
  | some l' => κ l'
  | none => none
def copyV (E : List (Nat × Blk)) (esz : Nat) (d s : V) (σ : H) : Option (V × H) :=
  match d, srcCells E σ esz s with
    | .nils, some (_, _) => some (.int .i64 0, σ)
    | .sle _ _ _ _, some (_, _) => some (.int .i64 0, σ)
    | .sl b off len _, some (n, src) =>
      let m := Nat.min n len
      if m = 0 then some (.int .i64 0, σ) else
      match look σ.bl b with
      | some (.cells l) => if Nat.ble (off + m * esz) l.length && allOne (src.take (m * esz)) then some (.int .i64 m, σ.set b (.cells (spl l off (src.take (m * esz))))) else none
      | _ => none
    | _, _ => none
theorem copyV_eq (E : List (Nat × Blk)) (esz : Nat) (d s : AO) (e : Env) (σ : H) : aopK E (.copy esz d s) e σ = copyV E esz (opv e d) (opv e s) σ := rfl
def getL (e : Env) (t : Nat) (κ : V → Ans) : Ans := match look e t with
  | some v => chk v.live (κ v)
  | none => none

def callvK (D : Den) (fv : V) (vs : List V) (σ : H) (κ : V → H → Ans) : Ans := match fv with
  | .fn g first cap => callK (D g (first ++ vs ++ cap) σ) κ
  | _ => none

/-! ### one operation -/
/-- 'id': the number of the block that it makes, if it makes one; 'nx': the next number then. -/
def valX (E : List (Nat × Blk)) (D : Den) (id nx : Nat) (o : AOp) (e : Env) (σ : H) (κ : V → H → Ans) : Ans :=
  match o with
  | .mov x => getK e x fun v => κ v σ
  | .bin op t x y => getK e x fun a => getK e y fun b => binX op t a b fun v => κ v σ
  | .un op x => getK e x fun a => unX op a fun v => κ v σ
  | .conv (.toInt k) x => getK e x fun v => match v with
    | .int _ n => κ (.int k (wrapF k n)) σ
    | _ => none
  | .conv .same x => getK e x fun v => rtStr v fun s => κ (.str s) σ
  | .conv .toStr x => getK e x fun v => toStrK E σ v fun u => κ (.str u) σ
  | .conv (.toBytes _) x => getK e x fun v => rtStr v fun s => chk (Nat.ble s.len 1000000000000) (κ (.sl id 0 s.len (.op 1)) ⟨nx, (id, .cells (ints s.toList)) :: σ.bl⟩)
  | .nilck x => getK e x fun v => rtPtr v fun b o => κ (.ptr b o) σ
  | .faddr off x => getK e x fun v => rtPtr v fun b o => κ (.ptr b (Nat.add o off)) σ
  | .field off none x => getK e x fun v => rtAgg v fun l => nthK l off fun u => κ u σ
  | .field off (some n) x => getK e x fun v => rtAgg v fun l => subK l off n fun l' => κ (.agg l') σ
  | .extract i x => getK e x fun v => rtTup v fun l => nthK l i fun u => κ u σ
  | .iaddrS esz x i => getK e x fun v => getK e i fun j => match j with
    | .int _ n => iaddrSK esz v n fun b o => κ (.ptr b o) σ
    | _ => none
  | .iaddrA len esz x i => getK e x fun v => getK e i fun j => match j with
    | .int _ n => rtPtr v fun b o => nnK n fun m => chk (Nat.blt m len) (κ (.ptr b (Nat.add o (Nat.mul m esz))) σ)
    | _ => none
  | .idxStr x i => getK e x fun v => getK e i fun j => rtStr v fun s => match j with
    | .int _ n => idxStrX s n fun u => κ (.int .u8 u) σ
    | _ => none
  | .len true x => getK e x fun v => rtStr v fun s => κ (.int .i64 (Int.ofNat s.len)) σ
  | .len false x => getK e x fun v => slenK v fun n => κ (.int .i64 (Int.ofNat n)) σ
  | .lenC n => κ (.int .i64 (Int.ofNat n)) σ
  | .sliceStr x lo hi => getK e x fun v => getoK e lo fun l => getoK e hi fun h => rtStr v fun s => sliceStrX s l h fun u => κ (.str u) σ
  | .sliceSl esz x lo hi mx => getK e x fun v => getoK e lo fun l => getoK e hi fun h => getoK e mx fun m => gK (sliceV esz v l h m) fun u => κ u σ
  | .sliceArr n esz x lo hi mx => getK e x fun v => getoK e lo fun l => getoK e hi fun h => getoK e mx fun m => gK (sliceArrV n esz v l h m) fun u => κ u σ
  | .mkifc t x => getK e x fun v => κ (.ifc t v) σ
  | .mkfn f a c => getsK e a fun xs => getsK e c fun ys => κ (.fn f xs ys) σ
  | .build z ps => partsK e ps fun l => fillK l z fun l' => κ (.agg l') σ
  | .cap x => getK e x fun v => match v with
    | .nils => κ (.int .i64 0) σ
    | .sl _ _ _ (.ex c) => κ (.int .i64 (Int.ofNat c)) σ
    | _ => none
  | .min x l => getK e x fun v => getsK e l fun vs => gK (minI v vs) fun u => match u with
    | .int k n => κ (.int k n) σ
    | _ => none
  | .max x l => getK e x fun v => getsK e l fun vs => gK (maxI v vs) fun u => match u with
    | .int k n => κ (.int k n) σ
    | _ => none
  | .load none x => getK e x fun v => rtPtr v fun b o => ldK E σ b o fun u => κ u σ
  | .load (some n) x => getK e x fun v => rtPtr v fun b o => ldnK E σ b o n fun u => κ (.agg u) σ
  | .alloc _ z => κ (.ptr id 0) ⟨nx, (id, .cells z) :: σ.bl⟩
  | .box _ x => getK e x fun v => chk (allOne v.cells) (κ (.ptr id 0) ⟨nx, (id, .cells v.cells) :: σ.bl⟩)
  | .buildSlice _ n z ps => partsK e ps fun l => fillK l z fun l' => chk (allOne l') (κ (.sl id 0 n (.ex n)) ⟨nx, (id, .cells l') :: σ.bl⟩)
  | .mkslice _ _ bytes z len cap => getK e len fun a => getK e cap fun b => match a, b with
    | .int .i64 n, .int .i64 c => nnK n fun n => nnK c fun c => chk (Nat.ble n c && Nat.ble (c * bytes) 281474976710656 && Nat.ble c 1000000000000)
        (κ (.sl id 0 n (.ex c)) ⟨nx, (id, .cells (List.replicate c z).flatten) :: σ.bl⟩)
    | _, _ => none
  | .store n x v => getK e x fun p => getK e v fun u => rtPtr p fun b o => stK n b o u σ fun σ' => κ .dead σ'
  | .append _ esz bytes s x => getK e s fun a => getK e x fun b => appK E esz bytes a b σ κ
  | .copy esz d s => getK e d fun a => getK e s fun b => callK (copyV E esz a b σ) κ
  | .call f args => getsK e args fun vs => callK (D f vs σ) κ
  | .callv f args => getK e f fun fv => getsK e args fun vs => callvK D fv vs σ κ
  | .mkmap => κ (.mp id) ⟨nx, (id, .map []) :: σ.bl⟩
  | .lookup t z m x => getK e m fun p => getK e x fun k => gK (lookupV t z p k σ) fun v => κ v σ
  | .mapset t m k v => getK e m fun p => getK e k fun a => getK e v fun b => callK (mapsetV t p a b σ) κ
  | .alloc0 el => κ (.ptr id 0) ⟨nx, (id, .unit el) :: σ.bl⟩
  | .box0 el x => getK e x fun v => match v with
    | .agg [] => κ (.ptr id 0) ⟨nx, (id, .unit el) :: σ.bl⟩
    | _ => none
  | .load0 x => getK e x fun v => rtPtr v fun _ _ => κ (.agg []) σ
  | .store0 x v => getK e x fun p => getK e v fun u => match p, u with
    | .ptr _ _, .agg [] => κ .dead σ
    | _, _ => none
  | .faddr0 t x => getK e x fun v => gK (faddr0V t v σ) fun u => κ u σ
  | .idxArr n esz none x i => getK e x fun v => getK e i fun j => rtAgg v fun l => match j with
    | .int _ k => nnK k fun m => chk (Nat.blt m n) (nthK l (Nat.mul m esz) fun u => κ u σ)
    | _ => none
  | .idxArr n esz (some s) x i => getK e x fun v => getK e i fun j => rtAgg v fun l => match j with
    | .int _ k => nnK k fun m => chk (Nat.blt m n) (subK l (Nat.mul m esz) s fun l' => κ (.agg l') σ)
    | _ => none
  | _ => none

/-- The cells of a value that is stored: 'ty' says whether it is an aggregate. -/
def cellsK (ty : XTy) (v : V) (κ : List V → Ans) : Ans := match ty with
  | .agg _ => rtAgg v fun l => chk (allOne l) (κ l)
  | _ => rtOne v (κ [v])

/-- An operation, with the blocks of the call's own: it leaves a value, or an address in one of them. -/
def opX (E : List (Nat × Blk)) (D : Den) (pw : Bool) (id nx : Nat) (o : AOp) (ty : XTy) (e : Env) (q : Qs) (r : Rg) (σ : H) (κ : V → Rg → H → Ans) (κm : Nat → Nat → Ans) : Ans :=
  match o with
  | .mov x => match markX q x with
    | some (m, off) => κm m off
    | none => valX E D id nx o e σ fun v σ' => rt ty v fun v' => κ v' r σ'
  | .nilck x => match markX q x with
    | some (m, off) => κm m off
    | none => valX E D id nx o e σ fun v σ' => rt ty v fun v' => κ v' r σ'
  | .faddr d x => match markX q x with
    | some (m, off) => κm m (off + d)
    | none => valX E D id nx o e σ fun v σ' => rt ty v fun v' => κ v' r σ'
  | .load none x => match markX q x with
    | some (m, off) => match look r m with
      | some l => nthK l off fun v => rt ty v fun v' => κ v' r σ
      | none => none
    | none => valX E D id nx o e σ fun v σ' => rt ty v fun v' => κ v' r σ'
  | .load (some n) x => match markX q x with
    | some (m, off) => match look r m with
      | some l => subK l off n fun l' => rt ty (.agg l') fun v' => κ v' r σ
      | none => none
    | none => valX E D id nx o e σ fun v σ' => rt ty v fun v' => κ v' r σ'
  | .store n x v => match markX q x with
    | some (m, off) => match pw, look r m with
      | true, some l => match markX q v with
        | none => getK e v fun u => cellsK ty u fun cs => chk (Nat.beq cs.length n && Nat.ble (off + n) l.length) (κ .dead (repl r m (spl l off cs)) σ)
        | some _ => none
      | _, _ => none
    | none => valX E D id nx o e σ fun v σ' => κ v r σ'
  | o => valX E D id nx o e σ fun v σ' => rt ty v fun v' => κ v' r σ'

/-! ### lists of operations -/
inductive XL where
  | nil
  | op (dst : Option Nat) (ty : XTy) (looks : List Nat) (o : AOp) (rest : XL)
  | pal (dst : Nat) (looks : List Nat) (el : TypeId) (z : List V) (rest : XL)
  | grp (t : Nat) (b : Bool) (l : XL) (dst : Nat) (looks : List Nat) (c x y : AO) (rest : XL)
  deriving Inhabited

def XL.size : XL → Nat
  | .nil => 0
  | .op _ _ _ _ r => r.size + 1
  | .pal _ _ _ _ r => r.size + 1
  | .grp _ _ l _ _ _ _ _ r => l.size + (r.size + 1)
/-- The operations, as the model has them. -/
def XL.flat (g : Option (Nat × Bool)) : XL → List AOper
  | .nil => []
  | .op d _ _ o r => ⟨d, o, g⟩ :: r.flat g
  | .pal d _ el z r => ⟨some d, .alloc el z, g⟩ :: r.flat g
  | .grp t b l d _ c x y r => l.flat (some (t, b)) ++ ⟨some d, .pick c x y, g⟩ :: r.flat g
def XL.lks : XL → List (List Nat)
  | .nil => []
  | .op _ _ k _ r => k :: r.lks
  | .pal _ k _ _ r => k :: r.lks
  | .grp _ _ l _ k _ _ _ r => l.lks ++ k :: r.lks
def XL.dsts : XL → List Nat
  | .nil => []
  | .op d _ _ _ r => (match d with | some d => d :: r.dsts | none => r.dsts)
  | .pal d _ _ _ r => d :: r.dsts
  | .grp _ _ l d _ _ _ _ r => l.dsts ++ d :: r.dsts

def without {α : Type} (ds : List Nat) : List (Nat × α) → List (Nat × α)
  | [] => []
  | (k, v) :: l => match memN ds k with
    | true => without ds l
    | false => (k, v) :: without ds l
def without1 {α : Type} (d : Option Nat) (l : List (Nat × α)) : List (Nat × α) := match d with
  | none => l
  | some d => without [d] l
def marked (m : Nat) : Qs → List Nat
  | [] => []
  | (t, p) :: l => match Nat.beq p.1 m with
    | true => t :: marked m l
    | false => marked m l
/-- No address within that block any more. -/
def unmark (m : Nat) (q : Qs) : Qs := without (marked m q) q
def restrQ : List Nat → Qs → Qs
  | [], _ => []
  | t :: l, q => match look q t with
    | some p => (t, p) :: restrQ l q
    | none => restrQ l q
def selE (dr : Bool) (ks : List Nat) (e : Env) : Env := match dr with
  | true => restr ks e
  | false => e
def selQ (dr : Bool) (ks : List Nat) (q : Qs) : Qs := match dr with
  | true => restrQ ks q
  | false => q
def putQ (q : Qs) (d : Option Nat) (p : Nat × Nat) : Qs := match d with
  | some d => (d, p) :: q
  | none => q

/-- 'dr': the order is open. -/
def denL (E : List (Nat × Blk)) (D : Den) (dr pw : Bool) (_n0 : Nat) (l : XL) : Nat → Env → Qs → Rg → H → (Env → Qs → Rg → H → Ans) → Ans :=
  XL.rec (motive := fun _ => Bool → Nat → Env → Qs → Rg → H → (Env → Qs → Rg → H → Ans) → Ans)
    (fun _ _ e q r σ κ => κ e q r σ)
    (fun d ty ks o _ ih pw i e q r σ κ =>
      opX E D pw σ.next (σ.next + 1) o ty (selE dr ks e) (selQ dr ks q) r σ
        (fun v r' σ' => ih pw (i + 1) (putE e d v) (without1 d q) r' σ' κ)
        (fun m off => ih pw (i + 1) (without1 d e) (putQ (without1 d q) d (m, off)) r σ κ))
    (fun d _ _ z _ ih pw i e q r σ κ => match pw with
      | true => ih true (i + 1) (without [d] e) ((d, (d, 0)) :: unmark d (without [d] q)) ((d, z) :: without [d] r) σ κ
      | false => none)
    (fun t b l d ks _ x y _ ihl ih pw i e q r σ κ =>
      getK (selE dr [t] e) (.tmp t) fun c => rtBool c fun cb =>
        joinB (fun v σ' => ih pw (i + l.size + 1) ((d, .bool v) :: without (d :: l.dsts) e) (without (d :: l.dsts) q) r σ' κ) fun k =>
          match b with
          | true => condK cb
              (ihl false i e q r σ fun e' _ _ σ' => getK (selE dr ks e') x fun v => rtBool v fun v => k v σ')
              (getK (selE dr ks e) y fun v => rtBool v fun v => k v σ)
          | false => condK cb
              (getK (selE dr ks e) x fun v => rtBool v fun v => k v σ)
              (ihl false i e q r σ fun e' _ _ σ' => getK (selE dr ks e') y fun v => rtBool v fun v => k v σ'))
    l pw
section
variable {E : List (Nat × Blk)} {D : Den} {dr : Bool} {n0 i : Nat} {e : Env} {q : Qs} {r : Rg} {σ : H} {κ : Env → Qs → Rg → H → Ans}
theorem denL_nil {pw : Bool} : denL E D dr pw n0 .nil i e q r σ κ = κ e q r σ := rfl
theorem denL_op {pw : Bool} (d : Option Nat) (ty : XTy) (ks : List Nat) (o : AOp) (rest : XL) : denL E D dr pw n0 (.op d ty ks o rest) i e q r σ κ = opX E D pw σ.next (σ.next + 1) o ty (selE dr ks e) (selQ dr ks q) r σ
      (fun v r' σ' => denL E D dr pw n0 rest (i + 1) (putE e d v) (without1 d q) r' σ' κ)
      (fun m off => denL E D dr pw n0 rest (i + 1) (without1 d e) (putQ (without1 d q) d (m, off)) r σ κ) := rfl
theorem denL_pal (d : Nat) (ks : List Nat) (el : TypeId) (z : List V) (rest : XL) : denL E D dr true n0 (.pal d ks el z rest) i e q r σ κ = denL E D dr true n0 rest (i + 1) (without [d] e) ((d, (d, 0)) :: unmark d (without [d] q)) ((d, z) :: without [d] r) σ κ := rfl
theorem denL_palF (d : Nat) (ks : List Nat) (el : TypeId) (z : List V) (rest : XL) : denL E D dr false n0 (.pal d ks el z rest) i e q r σ κ = none := rfl
theorem denL_grp {pw : Bool} (t : Nat) (b : Bool) (l : XL) (d : Nat) (ks : List Nat) (c x y : AO) (rest : XL) : denL E D dr pw n0 (.grp t b l d ks c x y rest) i e q r σ κ =
      getK (selE dr [t] e) (.tmp t) fun c => rtBool c fun cb =>
        joinB (fun v σ' => denL E D dr pw n0 rest (i + l.size + 1) ((d, .bool v) :: without (d :: l.dsts) e) (without (d :: l.dsts) q) r σ' κ) fun k =>
          match b with
          | true => condK cb
              (denL E D dr false n0 l i e q r σ fun e' _ _ σ' => getK (selE dr ks e') x fun v => rtBool v fun v => k v σ')
              (getK (selE dr ks e) y fun v => rtBool v fun v => k v σ)
          | false => condK cb
              (getK (selE dr ks e) x fun v => rtBool v fun v => k v σ)
              (denL E D dr false n0 l i e q r σ fun e' _ _ σ' => getK (selE dr ks e') y fun v => rtBool v fun v => k v σ') := rfl
end

/-! ### code -/
structure St where
  e : Env
  q : Qs
  r : Rg
  σ : H

inductive XC where
  | skip
  | ops (l : XL)
  | draw (l : XL) (ancs : List Nat)
  | gdraw (ops : List AOper) (plan : List DP) (ts : List (Nat × XTy))
  | seq (a b : XC)
  | cond (c : AO) (a b : XC)
  | block (id : Nat) (c : XC)
  | loop (ts : List (Nat × XTy)) (ms : List Nat) (rs : List (Nat × List XTy)) (c : XC)
  | exit (id : Nat)
  | ret
  | keep (ts : List (Nat × XTy)) (ms : List Nat) (rs : List (Nat × List XTy)) (c : XC)
  | bad
  deriving Inhabited

def keepL (e : Env) : List (Nat × XTy) → (Env → Ans) → Ans
  | [], κ => κ []
  | (t, ty) :: l, κ => getL e t fun v => rt ty v fun v' => keepL e l fun e' => κ ((t, v') :: e')
/-- The addresses of those temporaries, within those blocks. -/
def keepQ (ms rs : List Nat) (q : Qs) : Qs := match ms with
  | [] => []
  | t :: l => match look q t with
    | some p => (match memN rs p.1 with
      | true => (t, p) :: keepQ l rs q
      | false => keepQ l rs q)
    | none => keepQ l rs q
def keepE (e : Env) : List (Nat × XTy) → (Env → Ans) → Ans
  | [], κ => κ []
  | (t, ty) :: l, κ => getK e (.tmp t) fun v => rt ty v fun v' => keepE e l fun e' => κ ((t, v') :: e')
def keepR (r : Rg) : List (Nat × List XTy) → (Rg → Ans) → Ans
  | [], κ => κ []
  | (m, tys) :: l, κ => match look r m with
    | some cs => rts tys cs fun cs' => keepR r l fun r' => κ ((m, cs') :: r')
    | none => none
def iterK (f : (St → Ans) → St → Ans) (N : Nat) : St → Ans := Nat.rec (fun _ => none) (fun _ ih => f ih) N

theorem iterK_succ (f : (St → Ans) → St → Ans) (n : Nat) (s : St) : iterK f (n + 1) s = f (iterK f n) s := rfl
/-- Does it make a block that others may see? -/
def XL.makes : XL → Bool
  | .nil => false
  | .op _ _ _ o r => (match o.cls with | .a => true | _ => r.makes)
  | .pal _ _ _ _ r => r.makes
  | .grp _ _ l _ _ _ _ _ r => l.makes || r.makes
def XL.pals : XL → List Nat
  | .nil => []
  | .op _ _ _ _ r => r.pals
  | .pal d _ _ _ r => d :: r.pals
  | .grp _ _ l _ _ _ _ _ r => l.pals ++ r.pals
def palsOk (q : Qs) : List Nat → Bool
  | [] => true
  | d :: l => (marked d q).isEmpty && palsOk q l

def keepS (ts : List (Nat × XTy)) (ms : List Nat) (rs : List (Nat × List XTy)) (s : St) (κ : St → Ans) : Ans :=
  keepE s.e ts fun e' => keepR s.r rs fun r' => κ ⟨e', keepQ ms (rs.map Prod.fst) s.q, r', s.σ⟩
def blkK (id : Nat) (kn : St → Ans) (kx : Nat → St → Ans) : Nat → St → Ans := fun j s' => match Nat.beq j id with
  | true => kn s'
  | false => kx j s'
def drawK (q : Qs) (ds : List Nat) (a : Ans) : Ans := match palsOk q ds with
  | true => a
  | false => none
def gdrawK (x : Option (Env × H)) (κ : Env → H → Ans) : Ans := match x with
  | some (e, σ) => κ e σ
  | none => none
def denC (E : List (Nat × Blk)) (D : Den) (W : DrawFn) (N : Nat) (c : XC) : St → (St → Ans) → (Nat → St → Ans) → (St → Ans) → Ans :=
  XC.rec (motive := fun _ => St → (St → Ans) → (Nat → St → Ans) → (St → Ans) → Ans)
    (fun s kn _ _ => kn s)
    (fun l s kn _ _ => denL E D false true 0 l 0 s.e s.q s.r s.σ fun e q r σ => kn ⟨e, q, r, σ⟩)
    (fun l _ s kn _ _ => drawK s.q l.pals (denL E D true true 0 l 0 s.e s.q s.r s.σ fun e q r σ => kn ⟨e, q, r, σ⟩))
    (fun ops pl ts s kn _ _ => gdrawK (W ops pl s.e s.σ) fun e' σ' => keepL e' ts fun e'' => kn ⟨e'', [], [], σ'⟩)
    (fun _ _ iha ihb s kn kx kr => iha s (fun s' => ihb s' kn kx kr) kx kr)
    (fun c _ _ iha ihb s kn kx kr => getK s.e c fun v => rtBool v fun cb => condK cb (iha s kn kx kr) (ihb s kn kx kr))
    (fun id _ ih s kn kx kr => ih s kn (blkK id kn kx) kr)
    (fun ts ms rs _ ih s _ kx kr => keepS ts ms rs s fun s0 => iterK (fun rec s' => ih s' (fun s'' => keepS ts ms rs s'' rec) kx kr) N s0)
    (fun id s _ kx _ => kx id s)
    (fun s _ _ kr => kr s)
    (fun ts ms rs _ ih s kn kx kr => keepS ts ms rs s fun s0 => ih s0 kn kx kr)
    (fun _ _ _ _ => none)
    c
section
variable {E : List (Nat × Blk)} {D : Den} {W : DrawFn} {N : Nat} {s : St} {kn : St → Ans} {kx : Nat → St → Ans} {kr : St → Ans}
theorem denC_skip : denC E D W N .skip s kn kx kr = kn s := rfl
theorem denC_ops (l : XL) : denC E D W N (.ops l) s kn kx kr = denL E D false true 0 l 0 s.e s.q s.r s.σ fun e q r σ => kn ⟨e, q, r, σ⟩ := rfl
theorem denC_draw (l : XL) (ancs : List Nat) : denC E D W N (.draw l ancs) s kn kx kr = drawK s.q l.pals (denL E D true true 0 l 0 s.e s.q s.r s.σ fun e q r σ => kn ⟨e, q, r, σ⟩) := rfl
theorem denC_gdraw (ops : List AOper) (pl : List DP) (ts : List (Nat × XTy)) : denC E D W N (.gdraw ops pl ts) s kn kx kr = gdrawK (W ops pl s.e s.σ) fun e' σ' => keepL e' ts fun e'' => kn ⟨e'', [], [], σ'⟩ := rfl
theorem denC_seq (a b : XC) : denC E D W N (.seq a b) s kn kx kr = denC E D W N a s (fun s' => denC E D W N b s' kn kx kr) kx kr := rfl
theorem denC_cond (c : AO) (a b : XC) : denC E D W N (.cond c a b) s kn kx kr = getK s.e c fun v => rtBool v fun cb => condK cb (denC E D W N a s kn kx kr) (denC E D W N b s kn kx kr) := rfl
theorem denC_block (id : Nat) (c : XC) : denC E D W N (.block id c) s kn kx kr = denC E D W N c s kn (blkK id kn kx) kr := rfl
theorem denC_loop (ts : List (Nat × XTy)) (ms : List Nat) (rs : List (Nat × List XTy)) (c : XC) : denC E D W N (.loop ts ms rs c) s kn kx kr = keepS ts ms rs s fun s0 => iterK (fun rec s' => denC E D W N c s' (fun s'' => keepS ts ms rs s'' rec) kx kr) N s0 := rfl
theorem denC_exit (id : Nat) : denC E D W N (.exit id) s kn kx kr = kx id s := rfl
theorem denC_ret : denC E D W N .ret s kn kx kr = kr s := rfl
theorem denC_keep (ts : List (Nat × XTy)) (ms : List Nat) (rs : List (Nat × List XTy)) (c : XC) : denC E D W N (.keep ts ms rs c) s kn kx kr = keepS ts ms rs s fun s0 => denC E D W N c s0 kn kx kr := rfl
theorem denC_bad : denC E D W N .bad s kn kx kr = none := rfl
end

/-! ### functions -/
structure XFn where
  ntmps : Nat
  params : List XTy
  results : List AR
  body : XC
  deriving Inhabited

def resK (E : List (Nat × Blk)) (s : St) : List AR → (List V → Ans) → Ans
  | [], κ => κ []
  | .tmp t :: l, κ => getK s.e (.tmp t) fun v => resK E s l fun r => κ (v :: r)
  | .cell t n :: l, κ => match look s.q t with
    | some (m, off) => match look s.r m with
      | some cs => match n with
        | none => nthK cs off fun v => resK E s l fun r => κ (v :: r)
        | some n => subK cs off n fun l' => resK E s l fun r => κ (.agg l' :: r)
      | none => none
    | none => getK s.e (.tmp t) fun p => rtPtr p fun b o => match n with
      | none => ldK E s.σ b o fun v => resK E s l fun r => κ (v :: r)
      | some n => ldnK E s.σ b o n fun v => resK E s l fun r => κ (.agg v :: r)
def runX (E : List (Nat × Blk)) (D : Den) (W : DrawFn) (N : Nat) (f : XFn) (args : List V) (σ : H) : Ans :=
  rts f.params args fun args' => denC E D W N f.body ⟨argE 0 args', [], [], σ⟩ (fun s => resK E s f.results fun l => some (oneV l, s.σ)) (fun _ _ => none) (fun s => resK E s f.results fun l => some (oneV l, s.σ))

def XC.strip : XC → AC
  | .skip => .skip
  | .ops l => .region (l.flat none)
  | .draw l ancs => .draw (l.flat none) (List.zipWith DP.mk ancs l.lks)
  | .gdraw l pl _ => .draw l pl
  | .seq a b => .seq a.strip b.strip
  | .cond c a b => .cond c a.strip b.strip
  | .block id c => .block id c.strip
  | .loop _ _ _ c => .loop c.strip
  | .exit id => .exit id
  | .ret => .ret
  | .keep _ _ _ c => c.strip
  | .bad => .bad
def XFn.strip (f : XFn) : AFn := ⟨f.ntmps, f.results, [], f.body.strip⟩

/-! ### what is asked of the code beforehand -/
/-- 'ds': what has been written within the group; none: not within one. -/
def XTy.known : XTy → Bool
  | .any => false
  | _ => true
def okD (d : Option Nat) (ty : XTy) (o : AOp) : Bool := match d, o with
  | none, _ => true
  | some _, .store _ _ _ => false
  | some _, o => (match o.cls with
    | .k => ty.known
    | _ => true)
def seen (gt : Option Nat) (ks : List Nat) : Bool := match gt with
  | none => true
  | some t => memN ks t
def pickOk (t : Nat) (b : Bool) (ds : List Nat) (c x y : AO) : Bool :=
  (match c with
    | .tmp u => Nat.beq u t
    | .con _ => false) &&
  (match (match b with | true => y | false => x) with
    | .tmp u => !memN ds u
    | .con _ => true)
/-- 'gt': the temporary that guards the group. -/
def XL.okG : XL → Option (List Nat) → Option Nat → Bool
  | .nil, _, _ => true
  | .op d ty ks o r, ds, gt => okD d ty o && seen gt ks && (match ds, d with
    | some l, some d => r.okG (some (d :: l)) gt
    | _, _ => r.okG ds gt)
  | .pal _ ks _ _ r, ds, gt => seen gt ks && (match ds with
    | some _ => false
    | none => r.okG none gt)
  | .grp t b l d ks c x y r, ds, gt => seen gt ks && memN ks t && !memN l.dsts t && pickOk t b l.dsts c x y && (match ds with
    | some ds' => memN ds' t
    | none => true) && l.okG (some []) (some t) && (match ds with
    | some ds' => r.okG (some (d :: l.dsts ++ ds')) gt
    | none => r.okG none gt)
/-- The order of what reads and writes memory is not open. -/
def drawOk (l : List AOper) (ancs : List Nat) : Bool :=
  allN l.length fun k => match l[k]? with
    | some ok => (match ok.op.cls with
      | .k => allN l.length fun j => match l[j]? with
        | some oj => (match oj.op.cls with
          | .l => (ancs.getD j 0).testBit k || (ancs.getD k 0).testBit j
          | .a => !Nat.blt j k || (ancs.getD k 0).testBit j
          | _ => true)
        | none => false
      | _ => true)
    | none => false
def noBad : List AOper → Bool
  | [] => true
  | o :: l => (match o.op with
    | .bad => false
    | _ => true) && noBad l
def XC.ok : XC → Bool
  | .skip => true
  | .ops l => l.okG none none
  | .draw l ancs => l.okG none none && drawOk (l.flat none) ancs && Nat.beq ancs.length l.lks.length && !l.makes && noBad (l.flat none)
  | .gdraw _ _ _ => true
  | .seq a b => a.ok && b.ok
  | .cond _ a b => a.ok && b.ok
  | .block _ c => c.ok
  | .loop _ _ _ c => c.ok
  | .exit _ => true
  | .ret => true
  | .keep _ _ _ c => c.ok
  | .bad => true
end

end Go.Og
