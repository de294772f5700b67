/- What the last text leans on, part 1 of 5: merged out of smaller texts. No condition. -/
import Derived.Tactics2
import Derived.Laws.Append
import Derived.Laws.Slices
import Derived.Laws.Build
import Derived.Laws.Pointers
import Derived.Laws.Small
import Derived.Laws.StructEq
import Derived.WalkSpells
import Derived.Laws.BytesArg
import Derived.Laws.IdiomCopy
import Derived.Lib.ConvBytes
import Derived.IntWalk
import Derived.LoopN
namespace Go.Og

structure BS where
  len : Nat
  val : Nat
  deriving DecidableEq, Inhabited

def BS.get (s : BS) (i : Nat) : Nat := Nat.mod (Nat.shiftRight s.val (Nat.mul 8 i)) 256
def BS.toList (s : BS) : List UInt8 := (List.range s.len).map fun i => UInt8.ofNat (s.get i)
def BS.low (s : BS) : Nat := Nat.mod s.val (Nat.pow 2 (Nat.mul 8 s.len))
def BS.beq (a b : BS) : Bool := Nat.beq a.len b.len && Nat.beq a.low b.low
def BS.cat (a b : BS) : BS := ⟨Nat.add a.len b.len, Nat.lor a.low (Nat.shiftLeft b.val (Nat.mul 8 a.len))⟩
def BS.sub (s : BS) (lo hi : Nat) : BS := ⟨Nat.sub hi lo, Nat.mod (Nat.shiftRight s.val (Nat.mul 8 lo)) (Nat.pow 2 (Nat.mul 8 (Nat.sub hi lo)))⟩
def BS.ofList : List UInt8 → BS
  | [] => ⟨0, 0⟩
  | c :: l => ⟨Nat.succ (BS.ofList l).len, Nat.add c.toNat (Nat.mul 256 (BS.ofList l).val)⟩
theorem BS.get_lt (s : BS) (i : Nat) : s.get i < 256 := Nat.mod_lt _ (by decide)
theorem BS.length_toList (s : BS) : s.toList.length = s.len := by simp [BS.toList]
theorem BS.getElem?_toList (s : BS) (i : Nat) : s.toList[i]? = if i < s.len then some (UInt8.ofNat (s.get i)) else none := by
  simp only [BS.toList, List.getElem?_map]
  by_cases h : i < s.len
  · rw [if_pos h, List.getElem?_range h]; rfl
  · rw [if_neg h, List.getElem?_eq_none (by simpa using h)]; rfl
theorem BS.ofNat_inj {a b : Nat} (ha : a < 256) (hb : b < 256) (h : UInt8.ofNat a = UInt8.ofNat b) : a = b := by
  have := congrArg UInt8.toNat h
  simp only [UInt8.toNat_ofNat'] at this
  omega

theorem BS.testBit_get (s : BS) (i j : Nat) : (s.get i).testBit j = (decide (j < 8) && s.val.testBit (8 * i + j)) := by
  show Nat.testBit ((s.val >>> (8 * i)) % (2 ^ 8)) j = _
  rw [Nat.testBit_mod_two_pow, Nat.testBit_shiftRight]
theorem BS.testBit_low (s : BS) (j : Nat) : s.low.testBit j = (decide (j < 8 * s.len) && s.val.testBit j) := by
  show Nat.testBit (s.val % (2 ^ (8 * s.len))) j = _
  rw [Nat.testBit_mod_two_pow]

theorem BS.ext_get {a b : BS} (hl : a.len = b.len) (h : ∀ i, i < a.len → a.get i = b.get i) : a.toList = b.toList := by
  apply List.ext_getElem?
  intro i
  rw [BS.getElem?_toList, BS.getElem?_toList, hl]
  by_cases hi : i < b.len
  · rw [if_pos hi, if_pos hi, h i (by omega)]
  · rw [if_neg hi, if_neg hi]
theorem BS.get_eq {a b : BS} (h : a.toList = b.toList) : a.len = b.len ∧ ∀ i, i < a.len → a.get i = b.get i := by
  have hl : a.len = b.len := by rw [← BS.length_toList, h, BS.length_toList]
  refine ⟨hl, fun i hi => ?_⟩
  have := congrArg (·[i]?) h
  simp only [BS.getElem?_toList] at this
  rw [if_pos hi, if_pos (by omega)] at this
  exact BS.ofNat_inj (a.get_lt i) (b.get_lt i) (Option.some.inj this)
theorem BS.low_eq {a b : BS} (hl : a.len = b.len) : a.low = b.low ↔ ∀ i, i < a.len → a.get i = b.get i := by
  constructor
  · intro h i hi
    apply Nat.eq_of_testBit_eq
    intro j
    rw [BS.testBit_get, BS.testBit_get]
    by_cases hj : j < 8
    · have := congrArg (fun n => n.testBit (8 * i + j)) h
      simp only [BS.testBit_low] at this
      have h1 : (8 * i + j < 8 * a.len) := by omega
      have h2 : (8 * i + j < 8 * b.len) := by omega
      simpa [hj, h1, h2] using this
    · simp [hj]
  · intro h
    apply Nat.eq_of_testBit_eq
    intro j
    rw [BS.testBit_low, BS.testBit_low, ← hl]
    by_cases hj : j < 8 * a.len
    · have := congrArg (fun n => n.testBit (j % 8)) (h (j / 8) (by omega))
      simp only [BS.testBit_get] at this
      have h1 : j % 8 < 8 := by omega
      rw [Nat.div_add_mod] at this
      simpa [h1, hj] using this
    · simp [hj]
theorem BS.beq_iff {a b : BS} : a.beq b = true ↔ a.toList = b.toList := by
  simp only [BS.beq, Bool.and_eq_true, Nat.beq_eq]
  constructor
  · rintro ⟨hl, h⟩; exact BS.ext_get hl ((BS.low_eq hl).1 h)
  · intro h
    obtain ⟨hl, hg⟩ := BS.get_eq h
    exact ⟨hl, (BS.low_eq hl).2 hg⟩
theorem BS.beq_eq (a b : BS) : a.beq b = decide (a.toList = b.toList) := by
  by_cases h : a.toList = b.toList
  · rw [BS.beq_iff.2 h]; simp [h]
  · rw [decide_eq_false h, Bool.eq_false_iff]; exact fun hh => h (BS.beq_iff.1 hh)

theorem BS.get_cat_left {a b : BS} {i : Nat} (h : i < a.len) : (a.cat b).get i = a.get i := by
  apply Nat.eq_of_testBit_eq
  intro j
  rw [BS.testBit_get, BS.testBit_get]
  by_cases hj : j < 8
  · show (decide (j < 8) && Nat.testBit (a.low ||| b.val <<< (8 * a.len)) (8 * i + j)) = _
    rw [Nat.testBit_or, BS.testBit_low, Nat.testBit_shiftLeft]
    have h1 : 8 * i + j < 8 * a.len := by omega
    have h2 : ¬ (8 * a.len ≤ 8 * i + j) := by omega
    simp [h1, h2]
  · simp [hj]
theorem BS.get_cat_right {a b : BS} {i : Nat} (h : a.len ≤ i) : (a.cat b).get i = b.get (i - a.len) := by
  apply Nat.eq_of_testBit_eq
  intro j
  rw [BS.testBit_get, BS.testBit_get]
  by_cases hj : j < 8
  · show (decide (j < 8) && Nat.testBit (a.low ||| b.val <<< (8 * a.len)) (8 * i + j)) = _
    rw [Nat.testBit_or, BS.testBit_low, Nat.testBit_shiftLeft]
    have h1 : ¬ (8 * i + j < 8 * a.len) := by omega
    have h2 : 8 * i + j ≥ 8 * a.len := by omega
    have h3 : 8 * i + j - 8 * a.len = 8 * (i - a.len) + j := by omega
    simp [h1, h2, h3]
  · simp [hj]
theorem BS.toList_cat (a b : BS) : (a.cat b).toList = a.toList ++ b.toList := by
  apply List.ext_getElem?
  intro i
  rw [List.getElem?_append, BS.length_toList, BS.getElem?_toList, BS.getElem?_toList, BS.getElem?_toList]
  have hl : (a.cat b).len = a.len + b.len := rfl
  rw [hl]
  by_cases h : i < a.len
  · rw [if_pos h, if_pos (by omega), if_pos h, BS.get_cat_left h]
  · rw [if_neg h]
    by_cases h2 : i < a.len + b.len
    · rw [if_pos h2, if_pos (by omega), BS.get_cat_right (by omega)]
    · rw [if_neg h2, if_neg (by omega)]
theorem BS.get_sub {s : BS} {lo hi i : Nat} (h : i < hi - lo) : (s.sub lo hi).get i = s.get (lo + i) := by
  apply Nat.eq_of_testBit_eq
  intro j
  rw [BS.testBit_get, BS.testBit_get]
  by_cases hj : j < 8
  · show (decide (j < 8) && Nat.testBit ((s.val >>> (8 * lo)) % (2 ^ (8 * (hi - lo)))) (8 * i + j)) = _
    rw [Nat.testBit_mod_two_pow, Nat.testBit_shiftRight]
    have h1 : 8 * i + j < 8 * (hi - lo) := by omega
    have h2 : 8 * lo + (8 * i + j) = 8 * (lo + i) + j := by omega
    simp [h1, h2]
  · simp [hj]
theorem BS.toList_sub {s : BS} {lo hi : Nat} (h : hi ≤ s.len) : (s.sub lo hi).toList = (s.toList.drop lo).take (hi - lo) := by
  apply List.ext_getElem?
  intro i
  rw [List.getElem?_take, List.getElem?_drop, BS.getElem?_toList, BS.getElem?_toList]
  have hl : (s.sub lo hi).len = hi - lo := rfl
  rw [hl]
  by_cases h1 : i < hi - lo
  · rw [if_pos h1, if_pos h1, if_pos (by omega), BS.get_sub h1]
  · rw [if_neg h1, if_neg h1]
theorem BS.len_ofList : ∀ l : List UInt8, (BS.ofList l).len = l.length
  | [] => rfl
  | _ :: l => by simp [BS.ofList, BS.len_ofList l]
theorem BS.get_ofList : ∀ (l : List UInt8) (i : Nat) (c : UInt8), l[i]? = some c → (BS.ofList l).get i = c.toNat
  | [], i, c, h => by simp at h
  | d :: l, 0, c, h => by
    simp at h; subst h
    show ((d.toNat + 256 * (BS.ofList l).val) >>> (8 * 0)) % 256 = _
    have := d.toNat_lt
    rw [Nat.mul_zero, Nat.shiftRight_zero]
    omega
  | d :: l, i + 1, c, h => by
    simp at h
    rw [← BS.get_ofList l i c h]
    show ((d.toNat + 256 * (BS.ofList l).val) >>> (8 * (i + 1))) % 256 = ((BS.ofList l).val >>> (8 * i)) % 256
    have hd := d.toNat_lt
    rw [Nat.mul_succ, Nat.add_comm (8 * i) 8, Nat.shiftRight_add]
    have : (d.toNat + 256 * (BS.ofList l).val) >>> 8 = (BS.ofList l).val := by
      rw [Nat.shiftRight_eq_div_pow]; omega
    rw [this]
theorem BS.toList_ofList (l : List UInt8) : (BS.ofList l).toList = l := by
  apply List.ext_getElem?
  intro i
  rw [BS.getElem?_toList, BS.len_ofList]
  by_cases h : i < l.length
  · rw [if_pos h]
    have h2 : l[i]? = some l[i] := List.getElem?_eq_getElem h
    rw [BS.get_ofList l i _ h2, h2]
    simp
  · rw [if_neg h, List.getElem?_eq_none (by omega)]
end Go.Og

namespace Go.Og

/-- What is known of where an abstract block lies: the model's block, how far in, where its spare room ends (in the block's own cells). -/
structure BI where
  blk : Nat
  shift : Nat
  endc : Nat

/-- A slice's capacity: known; or whatever its block has room for, in elements of so many cells. -/
inductive Cap where
  | ex (c : Nat)
  | op (esz : Nat)
  deriving DecidableEq, Inhabited

abbrev Ren := Nat → Option BI

/-- Abstract values. 'sl b o n (op e)': a slice whose capacity is what its block has room for. 'sle b o k e': the empty slice [k:k] of such a one. 'dead': not known. -/
inductive V where
  | dead
  | bool (b : Bool)
  | int (k : IntKind) (n : Int)
  | str (s : BS)
  | nilp
  | ptr (b off : Nat)
  | nils
  | sl (b off len : Nat) (cap : Cap)
  | sle (b off k esz : Nat)
  | nilm
  | mp (b : Nat)
  | fn (f : FuncId) (first captured : List V)
  | nilf
  | ifc (t : TypeId) (v : V)
  | nili
  | agg (l : List V)
  | tup (l : List V)
  deriving Inhabited

def BI.cap (i : BI) (esz off : Nat) : Nat := (i.endc - off) / esz

mutual
def conc (R : Ren) : V → Option Value
  | .dead => none
  | .bool b => some (.bool b)
  | .int k n => some (.int k n)
  | .str l => some (.string ⟨l.toList.toArray⟩)
  | .nilp => some (.pointer none)
  | .ptr b off => (R b).map fun i => .pointer (some ⟨i.blk, i.shift + off, none⟩)
  | .nils => some (.slice none 0 0)
  | .sl b off len (.ex c) => (R b).map fun i => .slice (some ⟨i.blk, i.shift + off, none⟩) len c
  | .sl b off len (.op e) => (R b).bind fun i => if len ≤ i.cap e off then some (.slice (some ⟨i.blk, i.shift + off, none⟩) len (i.cap e off)) else none
  | .sle b off k e => (R b).bind fun i => if k ≤ i.cap e off then some (.slice (some (if i.cap e off = k then ⟨i.blk, i.shift + off, none⟩ else (⟨i.blk, i.shift + off, none⟩ : Addr).add (k * e))) 0 (i.cap e off - k)) else none
  | .nilm => some (.map none)
  | .mp b => (R b).map fun i => .map (some i.blk)
  | .fn f a c => match concs R a, concs R c with
    | some x, some y => some (.func (.func f) x.toArray y.toArray)
    | _, _ => none
  | .nilf => some .nilFunc
  | .ifc t v => match conc R v with
    | some x => some (.iface t x)
    | none => none
  | .nili => some .nilIface
  | .agg l => match concs R l with
    | some x => some (.agg x.toArray)
    | none => none
  | .tup l => match concs R l with
    | some x => some (.tuple x.toArray)
    | none => none
def concs (R : Ren) : List V → Option (List Value)
  | [] => some []
  | v :: l => match conc R v, concs R l with
    | some x, some y => some (x :: y)
    | _, _ => none
end

/-- R' knows all that R knows. -/
def Le (R R' : Ren) : Prop := ∀ b i, R b = some i → R' b = some i
theorem Le.refl (R : Ren) : Le R R := fun _ _ h => h
theorem Le.trans {R S T : Ren} (h : Le R S) (k : Le S T) : Le R T := fun b i x => k b i (h b i x)

mutual
theorem conc_mono {R R' : Ren} (h : Le R R') : ∀ (v : V) (x : Value), conc R v = some x → conc R' v = some x
  | .dead, x, e => by simp [conc] at e
  | .bool b, x, e => by simpa [conc] using e
  | .int k n, x, e => by simpa [conc] using e
  | .str l, x, e => by simpa [conc] using e
  | .nilp, x, e => by simpa [conc] using e
  | .ptr b off, x, e => by
    simp only [conc, Option.map_eq_some_iff] at e ⊢
    obtain ⟨i, hi, rfl⟩ := e; exact ⟨i, h b i hi, rfl⟩
  | .nils, x, e => by simpa [conc] using e
  | .sl b off len (.ex c), x, e => by
    simp only [conc, Option.map_eq_some_iff] at e ⊢
    obtain ⟨i, hi, rfl⟩ := e; exact ⟨i, h b i hi, rfl⟩
  | .sl b off len (.op _), x, e => by
    simp only [conc, Option.bind_eq_some_iff] at e ⊢
    obtain ⟨i, hi, e⟩ := e; exact ⟨i, h b i hi, e⟩
  | .sle b off k _, x, e => by
    simp only [conc, Option.bind_eq_some_iff] at e ⊢
    obtain ⟨i, hi, e⟩ := e; exact ⟨i, h b i hi, e⟩
  | .nilm, x, e => by simpa [conc] using e
  | .mp b, x, e => by
    simp only [conc, Option.map_eq_some_iff] at e ⊢
    obtain ⟨i, hi, rfl⟩ := e; exact ⟨i, h b i hi, rfl⟩
  | .fn f a c, x, e => by
    simp only [conc] at e ⊢
    cases ha : concs R a <;> simp only [ha] at e
    · cases e
    · cases hc : concs R c <;> simp only [hc] at e
      · cases e
      · rw [concs_mono h a _ ha, concs_mono h c _ hc]; exact e
  | .nilf, x, e => by simpa [conc] using e
  | .ifc t v, x, e => by
    simp only [conc] at e ⊢
    cases hv : conc R v <;> simp only [hv] at e
    · cases e
    · rw [conc_mono h v _ hv]; exact e
  | .nili, x, e => by simpa [conc] using e
  | .agg l, x, e => by
    simp only [conc] at e ⊢
    cases hl : concs R l <;> simp only [hl] at e
    · cases e
    · rw [concs_mono h l _ hl]; exact e
  | .tup l, x, e => by
    simp only [conc] at e ⊢
    cases hl : concs R l <;> simp only [hl] at e
    · cases e
    · rw [concs_mono h l _ hl]; exact e
theorem concs_mono {R R' : Ren} (h : Le R R') : ∀ (l : List V) (x : List Value), concs R l = some x → concs R' l = some x
  | [], x, e => by simpa [concs] using e
  | v :: l, x, e => by
    simp only [concs] at e ⊢
    cases hv : conc R v <;> simp only [hv] at e
    · cases e
    · cases hl : concs R l <;> simp only [hl] at e
      · cases e
      · rw [conc_mono h v _ hv, concs_mono h l _ hl]; exact e
end

theorem concs_length {R : Ren} : ∀ {l : List V} {x : List Value}, concs R l = some x → x.length = l.length
  | [], x, e => by simp only [concs, Option.some.injEq] at e; subst e; rfl
  | v :: l, x, e => by
    simp only [concs] at e
    cases hv : conc R v <;> simp only [hv] at e
    · cases e
    · cases hl : concs R l <;> simp only [hl] at e
      · cases e
      · cases e; simp [concs_length hl]
theorem concs_cons {R : Ren} {v : V} {l : List V} {x : List Value} : concs R (v :: l) = some x ↔ ∃ a b, conc R v = some a ∧ concs R l = some b ∧ x = a :: b := by
  simp only [concs]
  cases hv : conc R v <;> cases hl : concs R l <;> simp [eq_comm]
theorem concs_get {R : Ren} : ∀ {l : List V} {x : List Value}, concs R l = some x → ∀ {k : Nat} {v : V}, l[k]? = some v → ∃ a, conc R v = some a ∧ x[k]? = some a
  | [], x, e, k, v, h => by simp at h
  | v :: l, x, e, k, u, h => by
    obtain ⟨a, b, ha, hb, rfl⟩ := concs_cons.1 e
    cases k with
    | zero => simp at h; subst h; exact ⟨a, ha, by simp⟩
    | succ k => simp at h; obtain ⟨c, hc, hk⟩ := concs_get hb h; exact ⟨c, hc, by simpa using hk⟩
theorem concs_of_get {R : Ren} : ∀ {l : List V} {x : List Value}, x.length = l.length → (∀ (k : Nat) (v : V), l[k]? = some v → ∃ a, conc R v = some a ∧ x[k]? = some a) → concs R l = some x
  | [], x, e, h => by simp at e; subst e; rfl
  | v :: l, [], e, h => by simp at e
  | v :: l, a :: x, e, h => by
    obtain ⟨b, hb, hx⟩ := h 0 v (by simp)
    simp at hx; subst hx
    refine concs_cons.2 ⟨a, x, hb, concs_of_get (by simpa using e) (fun k u hu => ?_), rfl⟩
    obtain ⟨c, hc, hk⟩ := h (k + 1) u (by simpa using hu)
    exact ⟨c, hc, by simpa using hk⟩
theorem concs_append {R : Ren} {l m : List V} {x y : List Value} (h : concs R l = some x) (k : concs R m = some y) : concs R (l ++ m) = some (x ++ y) := by
  induction l generalizing x with
  | nil => simp only [concs, Option.some.injEq] at h; subst h; simpa using k
  | cons v l ih => obtain ⟨a, b, ha, hb, rfl⟩ := concs_cons.1 h; exact concs_cons.2 ⟨a, b ++ y, ha, ih hb, rfl⟩
theorem concs_take {R : Ren} {l : List V} {x : List Value} (h : concs R l = some x) (n : Nat) : concs R (l.take n) = some (x.take n) := by
  induction l generalizing x n with
  | nil => simp only [concs, Option.some.injEq] at h; subst h; simp [concs]
  | cons v l ih =>
    obtain ⟨a, b, ha, hb, rfl⟩ := concs_cons.1 h
    cases n with
    | zero => simp [concs]
    | succ n => exact concs_cons.2 ⟨a, b.take n, ha, ih hb n, rfl⟩
theorem concs_drop {R : Ren} {l : List V} {x : List Value} (h : concs R l = some x) (n : Nat) : concs R (l.drop n) = some (x.drop n) := by
  induction l generalizing x n with
  | nil => simp only [concs, Option.some.injEq] at h; subst h; simp [concs]
  | cons v l ih =>
    obtain ⟨a, b, ha, hb, rfl⟩ := concs_cons.1 h
    cases n with
    | zero => simpa using h
    | succ n => simpa using ih hb n
/-- A value of one cell. -/
def V.one : V → Bool
  | .agg _ | .tup _ | .dead => false
  | _ => true
/-- The cells of a value. -/
def V.cells : V → List V
  | .agg l => l
  | v => [v]

theorem conc_agg {R : Ren} {l : List V} {a : Value} (h : conc R (.agg l) = some a) : ∃ x, concs R l = some x ∧ a = .agg x.toArray := by
  simp only [conc] at h
  cases hl : concs R l <;> simp only [hl] at h
  · cases h
  · cases h; exact ⟨_, rfl, rfl⟩
theorem conc_tup {R : Ren} {l : List V} {a : Value} (h : conc R (.tup l) = some a) : ∃ x, concs R l = some x ∧ a = .tuple x.toArray := by
  simp only [conc] at h
  cases hl : concs R l <;> simp only [hl] at h
  · cases h
  · cases h; exact ⟨_, rfl, rfl⟩
theorem conc_agg_mk {R : Ren} {l : List V} {x : List Value} (h : concs R l = some x) : conc R (.agg l) = some (.agg x.toArray) := by simp only [conc, h]
theorem conc_tup_mk {R : Ren} {l : List V} {x : List Value} (h : concs R l = some x) : conc R (.tup l) = some (.tuple x.toArray) := by simp only [conc, h]

/-- A value of one cell stands for a value of one cell. -/
theorem conc_one {R : Ren} {v : V} {a : Value} (hv : v.one = true) (h : conc R v = some a) : a.cells = #[a] ∧ a.oneCell' = true := by
  cases v with
  | dead => cases hv
  | agg l => cases hv
  | tup l => cases hv
  | bool b => cases h; exact ⟨rfl, rfl⟩
  | int k n => cases h; exact ⟨rfl, rfl⟩
  | str l => cases h; exact ⟨rfl, rfl⟩
  | nilp => cases h; exact ⟨rfl, rfl⟩
  | nils => cases h; exact ⟨rfl, rfl⟩
  | nilm => cases h; exact ⟨rfl, rfl⟩
  | nilf => cases h; exact ⟨rfl, rfl⟩
  | nili => cases h; exact ⟨rfl, rfl⟩
  | ptr b off =>
    simp only [conc, Option.map_eq_some_iff] at h
    obtain ⟨i, _, rfl⟩ := h; exact ⟨rfl, rfl⟩
  | mp b =>
    simp only [conc, Option.map_eq_some_iff] at h
    obtain ⟨i, _, rfl⟩ := h; exact ⟨rfl, rfl⟩
  | sl b off len cap =>
    cases cap with
    | ex c =>
      simp only [conc, Option.map_eq_some_iff] at h
      obtain ⟨i, _, rfl⟩ := h; exact ⟨rfl, rfl⟩
    | op e =>
      simp only [conc, Option.bind_eq_some_iff] at h
      obtain ⟨i, _, h⟩ := h
      by_cases hc : len ≤ i.cap e off
      · rw [if_pos hc] at h; cases h; exact ⟨rfl, rfl⟩
      · rw [if_neg hc] at h; cases h
  | sle b off k e =>
    simp only [conc, Option.bind_eq_some_iff] at h
    obtain ⟨i, _, h⟩ := h
    by_cases hc : k ≤ i.cap e off
    · rw [if_pos hc] at h; cases h; exact ⟨rfl, rfl⟩
    · rw [if_neg hc] at h; cases h
  | ifc t v =>
    simp only [conc] at h
    cases hx : conc R v <;> simp only [hx] at h
    · cases h
    · cases h; exact ⟨rfl, rfl⟩
  | fn f x y =>
    simp only [conc] at h
    cases hx : concs R x <;> simp only [hx] at h
    · cases h
    · cases hy : concs R y <;> simp only [hy] at h
      · cases h
      · cases h; exact ⟨rfl, rfl⟩

theorem conc_cells {R : Ren} {v : V} {a : Value} (h : conc R v = some a) : concs R v.cells = some a.cells.toList := by
  cases v with
  | dead => cases h
  | agg l => obtain ⟨x, hx, rfl⟩ := conc_agg h; simpa [V.cells, Value.cells] using hx
  | tup l =>
    obtain ⟨x, hx, rfl⟩ := conc_tup h
    exact concs_cons.2 ⟨_, [], h, rfl, rfl⟩
  | _ =>
    rw [(conc_one rfl h).1]
    exact concs_cons.2 ⟨a, [], h, rfl, rfl⟩

end Go.Og

namespace Go.Og

inductive Blk where
  | cells (l : List V)
  | map (l : List (V × V))
  | siter (s : List UInt8) (pos : Nat)
  | unit (t : TypeId)
  deriving Inhabited

def look {α : Type} : List (Nat × α) → Nat → Option α
  | [], _ => none
  | (k, b) :: l, id => if Nat.beq k id then some b else look l id
/-- The block of that number has another content. -/
def repl {α : Type} : List (Nat × α) → Nat → α → List (Nat × α)
  | [], _, _ => []
  | (k, b) :: l, id, c => if Nat.beq k id then (k, c) :: l else (k, b) :: repl l id c
/-- Without the block of that number. -/
def drop {α : Type} : List (Nat × α) → Nat → List (Nat × α)
  | [], _ => []
  | (k, b) :: l, id => if Nat.beq k id then drop l id else (k, b) :: drop l id

theorem look_repl {α : Type} (l : List (Nat × α)) (id id' : Nat) (c : α) : look (repl l id c) id' = if id = id' then (look l id').map (fun _ => c) else look l id' := by
  induction l with
  | nil => simp [repl, look]
  | cons p l ih =>
    obtain ⟨k, b⟩ := p
    by_cases h : k = id
    · subst h
      by_cases h' : k = id'
      · simp [repl, look, h']
      · simp [repl, look, h']
    · simp only [repl, look, Nat.beq_eq, h, if_false, ih]
      by_cases h' : k = id'
      · subst h'; simp [Ne.symm h]
      · simp [h']
theorem look_drop {α : Type} (l : List (Nat × α)) (id id' : Nat) : look (drop l id) id' = if id = id' then none else look l id' := by
  induction l with
  | nil => simp [drop, look]
  | cons p l ih =>
    obtain ⟨k, b⟩ := p
    by_cases h : k = id
    · subst h
      simp only [drop, Nat.beq_eq, if_true, ih, look]
      by_cases h' : k = id' <;> simp [h']
    · simp only [drop, look, Nat.beq_eq, h, if_false, ih]
      by_cases h' : k = id'
      · subst h'; simp [Ne.symm h]
      · simp [h']

structure H where
  next : Nat
  bl : List (Nat × Blk)
  deriving Inhabited

def H.add (σ : H) (b : Blk) : H := ⟨σ.next + 1, (σ.next, b) :: σ.bl⟩
def H.set (σ : H) (id : Nat) (b : Blk) : H := ⟨σ.next, repl σ.bl id b⟩
def H.del (σ : H) (id : Nat) : H := ⟨σ.next, drop σ.bl id⟩

/-- The cells l stand in an array from a place on. -/
def Holds (R : Ren) (s : Nat) (l : List V) (arr : Array Value) : Prop :=
  ∀ (k : Nat) (v : V), l[k]? = some v → ∃ a, conc R v = some a ∧ a.oneCell' = true ∧ arr[s + k]? = some a
theorem Holds.mono {R R' : Ren} {s : Nat} {l : List V} {arr : Array Value} (h : Holds R s l arr) (hle : Le R R') : Holds R' s l arr := fun k v hk =>
  let ⟨a, ha, h1, h2⟩ := h k v hk
  ⟨a, conc_mono hle v a ha, h1, h2⟩

def MapHolds (R : Ren) : List (V × V) → List MapEntry → Prop
  | [], [] => True
  | (k, v) :: l, e :: es => conc R k = some e.key ∧ conc R v = some e.val ∧ MapHolds R l es
  | _, _ => False
theorem MapHolds.mono {R R' : Ren} (hle : Le R R') : ∀ {l : List (V × V)} {es : List MapEntry}, MapHolds R l es → MapHolds R' l es
  | [], [], _ => trivial
  | (_, _) :: _, _ :: _, ⟨h1, h2, h3⟩ => ⟨conc_mono hle _ _ h1, conc_mono hle _ _ h2, MapHolds.mono hle h3⟩
  | [], _ :: _, h => h.elim
  | _ :: _, [], h => h.elim

/-- A block of the call's own. -/
def OwnOk (R : Ren) (i : BI) (b : Blk) (w : World) : Prop :=
  match b with
  | .cells l => ∃ arr el lo hi, w.heap[i.blk]? = some (.cells arr el (lo, hi)) ∧ Holds R i.shift l arr ∧ i.shift + i.endc ≤ arr.size ∧ l.length ≤ i.endc ∧
      (∀ off, off < arr.size → ¬ (lo ≤ off ∧ off < hi))
  | .map l => ∃ es clock, w.heap[i.blk]? = some (.map es clock) ∧ MapHolds R l es.toList
  | .siter s p => w.heap[i.blk]? = some (.stringIter ⟨s.toArray⟩ p)
  | .unit t => ∃ fr, w.heap[i.blk]? = some (.cells #[] t fr)
/-- A block that was there before, and stays. -/
def ExtOk (R : Ren) (i : BI) (b : Blk) (w : World) : Prop :=
  match b with
  | .cells l => ∃ arr el fr, w.heap[i.blk]? = some (.cells arr el fr) ∧ Holds R i.shift l arr
  | _ => False

theorem OwnOk.mono {R R' : Ren} {i : BI} {b : Blk} {w w' : World} (h : OwnOk R i b w) (hle : Le R R') (hw : w'.heap[i.blk]? = w.heap[i.blk]?) : OwnOk R' i b w' := by
  cases b with
  | cells l =>
    obtain ⟨arr, el, lo, hi, h1, h2, h3, h4, h5⟩ := h
    exact ⟨arr, el, lo, hi, hw.trans h1, h2.mono hle, h3, h4, h5⟩
  | map l =>
    obtain ⟨es, c, h1, h2⟩ := h
    exact ⟨es, c, hw.trans h1, h2.mono hle⟩
  | siter s p => exact hw.trans h
  | unit t => obtain ⟨fr, h1⟩ := h; exact ⟨fr, hw.trans h1⟩
theorem ExtOk.mono {R R' : Ren} {i : BI} {b : Blk} {w w' : World} (h : ExtOk R i b w) (hle : Le R R') (hw : w'.heap[i.blk]? = w.heap[i.blk]?) : ExtOk R' i b w' := by
  cases b with
  | cells l =>
    obtain ⟨arr, el, fr, h1, h2⟩ := h
    exact ⟨arr, el, fr, hw.trans h1, h2.mono hle⟩
  | _ => exact h.elim
theorem OwnOk.lt {R : Ren} {i : BI} {b : Blk} {w : World} (h : OwnOk R i b w) : i.blk < w.heap.size := by
  have : ∃ o, w.heap[i.blk]? = some o := by
    cases b with
    | cells l => obtain ⟨arr, el, lo, hi, h1, _⟩ := h; exact ⟨_, h1⟩
    | map l => obtain ⟨es, c, h1, _⟩ := h; exact ⟨_, h1⟩
    | siter s p => exact ⟨_, h⟩
    | unit t => obtain ⟨fr, h1⟩ := h; exact ⟨_, h1⟩
  obtain ⟨o, ho⟩ := this
  rcases Nat.lt_or_ge i.blk w.heap.size with h | h
  · exact h
  · simp [Array.getElem?_eq_none h] at ho

/-- What stays fixed during a call: which blocks it may touch, the world at its start, the blocks that it may only read, the variables that it reads. -/
structure Cx where
  O : Nat → Prop
  w0 : World
  E : List (Nat × Blk)
  G : Nat → Bool

structure Rel (C : Cx) (R : Ren) (σ : H) (w : World) : Prop where
  fresh : ∀ id, σ.next ≤ id → R id = none
  own : ∀ id b, look σ.bl id = some b → ∃ i, R id = some i ∧ C.O i.blk ∧ OwnOk R i b w
  inj : ∀ id id' b b' i i', look σ.bl id = some b → look σ.bl id' = some b' → R id = some i → R id' = some i' → i.blk = i'.blk → id = id'
  ext : ∀ id b, look C.E id = some b → ∃ i, R id = some i ∧ ¬ C.O i.blk ∧ ExtOk R i b w
  glob : ∀ g, C.G g = true → ∃ i, R g = some i ∧ i.blk = g ∧ i.shift = 0
  fr : ∀ blk, ¬ C.O blk → w.heap[blk]? = C.w0.heap[blk]?
  size : C.w0.heap.size ≤ w.heap.size
  new : ∀ blk, C.w0.heap.size ≤ blk → C.O blk
  os : w.os = C.w0.os
  tape : w.tape = C.w0.tape
  output : w.output = C.w0.output

/-- R' is R, and what is new behind n. -/
def Ext (n : Nat) (R R' : Ren) : Prop := ∀ id, id < n → R' id = R id
theorem Ext.refl (n : Nat) (R : Ren) : Ext n R R := fun _ _ => rfl
theorem Ext.trans {n m : Nat} {R S T : Ren} (h : Ext n R S) (k : Ext m S T) (hn : n ≤ m) : Ext n R T := fun id hi => (k id (by omega)).trans (h id hi)
theorem Ext.le {n : Nat} {R R' : Ren} (h : Ext n R R') (hf : ∀ id, n ≤ id → R id = none) : Le R R' := fun id i hi => by
  rcases Nat.lt_or_ge id n with hl | hl
  · rw [h id hl]; exact hi
  · rw [hf id hl] at hi; cases hi

def upd (R : Ren) (id : Nat) (i : BI) : Ren := fun k => if k = id then some i else R k
theorem upd_same (R : Ren) (id : Nat) (i : BI) : upd R id i id = some i := by simp [upd]
theorem upd_other {R : Ren} {id k : Nat} {i : BI} (h : k ≠ id) : upd R id i k = R k := by simp [upd, h]
theorem upd_ext (R : Ren) (n : Nat) (i : BI) : Ext n R (upd R n i) := fun id hi => upd_other (by omega)

theorem Rel.next_of_own {C : Cx} {R : Ren} {σ : H} {w : World} (h : Rel C R σ w) {id : Nat} {b : Blk} (hb : look σ.bl id = some b) : id < σ.next := by
  rcases Nat.lt_or_ge id σ.next with hl | hl
  · exact hl
  · obtain ⟨i, hi, _⟩ := h.own id b hb
    rw [h.fresh id hl] at hi; cases hi

/-- The world has drawn: nothing else has turned. -/
theorem Rel.drawn {C : Cx} {R : Ren} {σ : H} {w : World} (h : Rel C R σ w) (d : Nat) : Rel C R σ { w with drawn := d } :=
  ⟨h.fresh, h.own, h.inj, h.ext, h.glob, h.fr, h.size, h.new, h.os, h.tape, h.output⟩

/-- w' has one block more. -/
structure NewBlk (w w' : World) : Prop where
  old : ∀ k, k < w.heap.size → w'.heap[k]? = w.heap[k]?
  size : w'.heap.size = w.heap.size + 1
  os : w'.os = w.os
  tape : w'.tape = w.tape
  output : w'.output = w.output
theorem NewBlk.of_alloc (w : World) (o : Obj) : NewBlk w (w.alloc o) :=
  ⟨fun k hk => by show (w.heap.push o)[k]? = _; rw [Array.getElem?_push, if_neg (by omega)], World.size_alloc w o, rfl, rfl, rfl⟩

/-- A new block. -/
theorem Rel.alloc {C : Cx} {R : Ren} {σ : H} {w w' : World} (h : Rel C R σ w) (hn : NewBlk w w') (b : Blk) (i : BI) (hi : i.blk = w.heap.size)
    (hb : OwnOk (upd R σ.next i) i b w') : Rel C (upd R σ.next i) (σ.add b) w' := by
  have hle : Le R (upd R σ.next i) := (upd_ext R σ.next i).le h.fresh
  have hold := hn.old
  have hO : C.O w.heap.size := h.new _ h.size
  refine ⟨?_, ?_, ?_, ?_, ?_, ?_, ?_, h.new, hn.os.trans h.os, hn.tape.trans h.tape, hn.output.trans h.output⟩
  · intro id hid
    have hid' : σ.next + 1 ≤ id := hid
    rw [upd_other (by omega)]; exact h.fresh id (by omega)
  · intro id c hc
    by_cases he : id = σ.next
    · subst he
      simp only [H.add, look, Nat.beq_eq, if_true, Option.some.injEq] at hc
      subst hc
      exact ⟨i, upd_same _ _ _, hi ▸ hO, hb⟩
    · simp only [H.add, look, Nat.beq_eq, Ne.symm he, if_false] at hc
      obtain ⟨j, hj, hOj, hok⟩ := h.own id c hc
      exact ⟨j, by rw [upd_other he]; exact hj, hOj, hok.mono hle (hold _ hok.lt)⟩
  · intro id id' c c' j j' hc hc' hj hj' hbl
    by_cases he : id = σ.next
    · by_cases he' : id' = σ.next
      · rw [he, he']
      · exfalso
        subst he
        rw [upd_same] at hj; cases hj
        simp only [H.add, look, Nat.beq_eq, Ne.symm he', if_false] at hc'
        rw [upd_other he'] at hj'
        obtain ⟨k, hk, _, hok⟩ := h.own id' c' hc'
        rw [hk] at hj'; cases hj'
        have := hok.lt
        omega
    · by_cases he' : id' = σ.next
      · exfalso
        subst he'
        rw [upd_same] at hj'; cases hj'
        simp only [H.add, look, Nat.beq_eq, Ne.symm he, if_false] at hc
        rw [upd_other he] at hj
        obtain ⟨k, hk, _, hok⟩ := h.own id c hc
        rw [hk] at hj; cases hj
        have := hok.lt
        omega
      · simp only [H.add, look, Nat.beq_eq, Ne.symm he, Ne.symm he', if_false] at hc hc'
        rw [upd_other he] at hj; rw [upd_other he'] at hj'
        exact h.inj id id' c c' j j' hc hc' hj hj' hbl
  · intro id c hc
    obtain ⟨j, hj, hno, hok⟩ := h.ext id c hc
    refine ⟨j, hle _ _ hj, hno, hok.mono hle (hold _ ?_)⟩
    rcases Nat.lt_or_ge j.blk w.heap.size with hl | hl
    · exact hl
    · exact absurd (h.new _ (Nat.le_trans h.size hl)) hno
  · intro g hg
    obtain ⟨j, hj, hb⟩ := h.glob g hg
    exact ⟨j, hle _ _ hj, hb⟩
  · intro blk hno
    rw [← h.fr blk hno]
    refine hold _ ?_
    rcases Nat.lt_or_ge blk w.heap.size with hl | hl
    · exact hl
    · exact absurd (h.new _ (Nat.le_trans h.size hl)) hno
  · rw [hn.size]; have := h.size; omega

/-- A block of the call's own has another content, in a world that is another one in that block alone. -/
theorem Rel.write {C : Cx} {R : Ren} {σ : H} {w w' : World} (h : Rel C R σ w) {id : Nat} {b c : Blk} {i : BI} (hb : look σ.bl id = some b) (hi : R id = some i)
    (hc : OwnOk R i c w') (hold : ∀ k, k ≠ i.blk → w'.heap[k]? = w.heap[k]?) (hsz : w'.heap.size = w.heap.size)
    (hos : w'.os = w.os) (htape : w'.tape = w.tape) (hout : w'.output = w.output) : Rel C R (σ.set id c) w' := by
  have hlook : ∀ k, look (σ.set id c).bl k = if id = k then (look σ.bl k).map (fun _ => c) else look σ.bl k := fun k => look_repl σ.bl id k c
  have hOi : C.O i.blk := by obtain ⟨j, hj, hO, _⟩ := h.own id b hb; rw [hi] at hj; cases hj; exact hO
  refine ⟨h.fresh, ?_, ?_, ?_, h.glob, ?_, ?_, h.new, hos.trans h.os, htape.trans h.tape, hout.trans h.output⟩
  · intro k d hd
    rw [hlook] at hd
    by_cases he : id = k
    · subst he
      rw [if_pos rfl, hb] at hd; cases hd
      exact ⟨i, hi, hOi, hc⟩
    · rw [if_neg he] at hd
      obtain ⟨j, hj, hO, hok⟩ := h.own k d hd
      refine ⟨j, hj, hO, hok.mono (Le.refl _) (hold _ fun hbl => he (h.inj id k b d i j hb hd hi hj hbl.symm))⟩
  · intro k k' d d' j j' hd hd' hj hj' hbl
    rw [hlook] at hd hd'
    have hs : ∀ m e, (if id = m then (look σ.bl m).map (fun _ => c) else look σ.bl m) = some e → ∃ f, look σ.bl m = some f := fun m e hm => by
      by_cases he : id = m
      · rw [if_pos he] at hm
        cases hl : look σ.bl m with
        | none => rw [hl] at hm; cases hm
        | some f => exact ⟨f, rfl⟩
      · rw [if_neg he] at hm; exact ⟨e, hm⟩
    obtain ⟨f, hf⟩ := hs k d hd
    obtain ⟨f', hf'⟩ := hs k' d' hd'
    exact h.inj k k' f f' j j' hf hf' hj hj' hbl
  · intro k d hd
    obtain ⟨j, hj, hn, hok⟩ := h.ext k d hd
    exact ⟨j, hj, hn, hok.mono (Le.refl _) (hold _ fun hbl => hn (hbl ▸ hOi))⟩
  · intro blk hn
    rw [← h.fr blk hn]
    exact hold _ fun hbl => hn (hbl ▸ hOi)
  · rw [hsz]; exact h.size

/-- A block is forgotten. -/
theorem Rel.del {C : Cx} {R : Ren} {σ : H} {w : World} (h : Rel C R σ w) (id : Nat) : Rel C R (σ.del id) w := by
  have hlook : ∀ k, look (σ.del id).bl k = if id = k then none else look σ.bl k := fun k => look_drop σ.bl id k
  have hs : ∀ k c, look (σ.del id).bl k = some c → look σ.bl k = some c := fun k c hk => by
    rw [hlook] at hk
    by_cases he : id = k
    · rw [if_pos he] at hk; cases hk
    · rwa [if_neg he] at hk
  exact ⟨h.fresh, fun k c hk => h.own k c (hs k c hk), fun k k' c c' i i' hk hk' => h.inj k k' c c' i i' (hs k c hk) (hs k' c' hk'), h.ext, h.glob, h.fr, h.size, h.new, h.os, h.tape, h.output⟩

/-- A block gets a new number, with other content, in a world that is another one in that block alone (append in place). -/
theorem Rel.rename {C : Cx} {R : Ren} {σ : H} {w w' : World} (h : Rel C R σ w) {id : Nat} {b c : Blk} {i : BI} (hb : look σ.bl id = some b) (hi : R id = some i)
    (hc : OwnOk (upd R σ.next i) i c w') (hold : ∀ k, k ≠ i.blk → w'.heap[k]? = w.heap[k]?) (hsz : w'.heap.size = w.heap.size)
    (hos : w'.os = w.os) (htape : w'.tape = w.tape) (hout : w'.output = w.output) : Rel C (upd R σ.next i) ((σ.del id).add c) w' := by
  have hle : Le R (upd R σ.next i) := (upd_ext R σ.next i).le h.fresh
  have hOi : C.O i.blk := by obtain ⟨j, hj, hO, _⟩ := h.own id b hb; rw [hi] at hj; cases hj; exact hO
  have hlook : ∀ k, look (σ.del id).bl k = if id = k then none else look σ.bl k := fun k => look_drop σ.bl id k
  have hs : ∀ k d, k ≠ σ.next → look ((σ.del id).add c).bl k = some d → id ≠ k ∧ look σ.bl k = some d := fun k d hk hd => by
    simp only [H.add, H.del, look, Nat.beq_eq, Ne.symm hk, if_false] at hd
    have hd' : look (σ.del id).bl k = some d := hd
    rw [hlook] at hd'
    by_cases he : id = k
    · rw [if_pos he] at hd'; cases hd'
    · rw [if_neg he] at hd'; exact ⟨he, hd'⟩
  refine ⟨?_, ?_, ?_, ?_, ?_, ?_, ?_, h.new, hos.trans h.os, htape.trans h.tape, hout.trans h.output⟩
  · intro k hk
    have hk' : σ.next + 1 ≤ k := hk
    rw [upd_other (by omega)]; exact h.fresh k (by omega)
  · intro k d hd
    by_cases he : k = σ.next
    · subst he
      simp only [H.add, H.del, look, Nat.beq_eq, if_true, Option.some.injEq] at hd
      subst hd
      exact ⟨i, upd_same _ _ _, hOi, hc⟩
    · obtain ⟨hne, hd'⟩ := hs k d he hd
      obtain ⟨j, hj, hO, hok⟩ := h.own k d hd'
      refine ⟨j, hle _ _ hj, hO, hok.mono hle (hold _ fun hbl => hne (h.inj id k b d i j hb hd' hi hj hbl.symm))⟩
  · intro k k' d d' j j' hd hd' hj hj' hbl
    by_cases he : k = σ.next
    · by_cases he' : k' = σ.next
      · rw [he, he']
      · exfalso
        subst he
        rw [upd_same] at hj; cases hj
        obtain ⟨hne, hd2⟩ := hs k' d' he' hd'
        rw [upd_other he'] at hj'
        exact hne (h.inj id k' b d' _ j' hb hd2 hi hj' hbl)
    · by_cases he' : k' = σ.next
      · exfalso
        subst he'
        rw [upd_same] at hj'; cases hj'
        obtain ⟨hne, hd2⟩ := hs k d he hd
        rw [upd_other he] at hj
        exact hne (h.inj id k b d _ j hb hd2 hi hj hbl.symm)
      · obtain ⟨_, hd2⟩ := hs k d he hd
        obtain ⟨_, hd2'⟩ := hs k' d' he' hd'
        rw [upd_other he] at hj; rw [upd_other he'] at hj'
        exact h.inj k k' d d' j j' hd2 hd2' hj hj' hbl
  · intro k d hd
    obtain ⟨j, hj, hn, hok⟩ := h.ext k d hd
    exact ⟨j, hle _ _ hj, hn, hok.mono hle (hold _ fun hbl => hn (hbl ▸ hOi))⟩
  · intro g hg
    obtain ⟨j, hj, hb⟩ := h.glob g hg
    exact ⟨j, hle _ _ hj, hb⟩
  · intro blk hn
    rw [← h.fr blk hn]
    exact hold _ fun hbl => hn (hbl ▸ hOi)
  · rw [hsz]; exact h.size

/-- The cells of a block. -/
def rd (E : List (Nat × Blk)) (σ : H) (id : Nat) : Option (List V) :=
  match look σ.bl id with
  | some (.cells l) => some l
  | some _ => none
  | none => match look E id with
    | some (.cells l) => some l
    | _ => none

theorem Rel.read {C : Cx} {R : Ren} {σ : H} {w : World} (h : Rel C R σ w) {id : Nat} {l : List V} (hl : rd C.E σ id = some l) :
    ∃ i arr el fr, R id = some i ∧ w.heap[i.blk]? = some (.cells arr el fr) ∧ Holds R i.shift l arr := by
  unfold rd at hl
  cases hb : look σ.bl id with
  | some b =>
    rw [hb] at hl
    obtain ⟨i, hi, _, hok⟩ := h.own id b hb
    cases b with
    | cells m => cases hl; obtain ⟨arr, el, lo, hi', h1, h2, _⟩ := hok; exact ⟨i, arr, el, _, hi, h1, h2⟩
    | map m => cases hl
    | siter s p => cases hl
    | unit t => cases hl
  | none =>
    rw [hb] at hl
    cases he : look C.E id with
    | none => rw [he] at hl; cases hl
    | some b =>
      rw [he] at hl
      obtain ⟨i, hi, _, hok⟩ := h.ext id b he
      cases b with
      | cells m => cases hl; obtain ⟨arr, el, fr, h1, h2⟩ := hok; exact ⟨i, arr, el, fr, hi, h1, h2⟩
      | map m => cases hl
      | siter s p => cases hl
      | unit t => cases hl

end Go.Og

namespace Go.Og

/-- An operand. -/
inductive AO where
  | tmp (i : Nat)
  | con (v : V)
  deriving Inhabited

/-- A cell of a struct that Go holds against another one. -/
inductive FK where
  | int | bool | str
  deriving DecidableEq, Inhabited

/-- How two values are held against each other that are no integers and no strings. 'flat': structs, by the places of their fields, each of one cell. -/
inductive ETag where
  | bool | ptr | slice | map | func
  | iface (lit : Bool)
  | flat (l : List (Nat × FK))
  | none
  deriving DecidableEq, Inhabited

inductive CTag where
  | toInt (k : IntKind)
  | same
  | toBytes (el : TypeId)
  | toStr
  | bad
  deriving DecidableEq, Inhabited

inductive AOp where
  | mov (x : AO)
  | pick (c a b : AO)
  | alloc (el : TypeId) (z : List V)
  | box (el : TypeId) (x : AO)
  | build (z : List V) (parts : List (Nat × Nat × AO))
  | buildSlice (el : TypeId) (n : Nat) (z : List V) (parts : List (Nat × Nat × AO))
  | load (n : Option Nat) (x : AO)
  | store (n : Nat) (x v : AO)
  | nilck (x : AO)
  | bin (op : BinOp) (t : ETag) (x y : AO)
  | un (op : UnOp) (x : AO)
  | conv (t : CTag) (x : AO)
  | mkifc (t : TypeId) (x : AO)
  | mkfn (f : FuncId) (first captured : List AO)
  | mkslice (el : TypeId) (esz bytes : Nat) (z : List V) (len cap : AO)
  | sliceStr (x : AO) (lo hi : Option AO)
  | sliceSl (esz : Nat) (x : AO) (lo hi mx : Option AO)
  | sliceArr (n esz : Nat) (x : AO) (lo hi mx : Option AO)
  | faddr (off : Nat) (x : AO)
  | field (off : Nat) (n : Option Nat) (x : AO)
  | iaddrS (esz : Nat) (x i : AO)
  | iaddrA (n esz : Nat) (x i : AO)
  | idxStr (x i : AO)
  | extract (i : Nat) (x : AO)
  | len (str : Bool) (x : AO)
  | lenC (n : Nat)
  | cap (x : AO)
  | append (el : TypeId) (esz bytes : Nat) (s x : AO)
  | copy (esz : Nat) (d s : AO)
  | min (x : AO) (l : List AO)
  | max (x : AO) (l : List AO)
  | call (f : FuncId) (args : List AO)
  | callv (f : AO) (args : List AO)
  | mkmap
  | lookup (t : ETag) (z : V) (m x : AO)
  | mapset (t : ETag) (m k v : AO)
  | alloc0 (el : TypeId)
  | box0 (el : TypeId) (x : AO)
  | load0 (x : AO)
  | store0 (x v : AO)
  | faddr0 (t : TypeId) (x : AO)
  | idxArr (n esz : Nat) (s : Option Nat) (x i : AO)
  | bad
  deriving Inhabited

structure AOper where
  dst : Option Nat
  op : AOp
  guard : Option (Nat × Bool)
  deriving Inhabited

/-- Of an operation of a region whose order is open: those that come before it in every order (as bits), and the temporaries that it looks at. -/
structure DP where
  anc : Nat
  looks : List Nat
  deriving Inhabited

inductive AC where
  | skip
  | region (ops : List AOper)
  | draw (ops : List AOper) (plan : List DP)
  | seq (a b : AC)
  | cond (c : AO) (a b : AC)
  | block (id : Nat) (c : AC)
  | loop (c : AC)
  | exit (id : Nat)
  | ret
  | keep (ts : List Nat) (c : AC)
  | bad
  deriving Inhabited

inductive AR where
  | tmp (t : Nat)
  | cell (t : Nat) (n : Option Nat)
  deriving Inhabited

structure AFn where
  ntmps : Nat
  results : List AR
  frees : List Nat
  body : AC
  deriving Inhabited

/-- What is known of the temporaries: the newest first. -/
abbrev Env := List (Nat × V)
def getE (e : Env) (t : Nat) : V :=
  match look e t with
  | some v => v
  | none => .dead

def opv (e : Env) : AO → V
  | .tmp i => getE e i
  | .con v => v
def opvs (e : Env) (l : List AO) : List V := l.map (opv e)
def opvo (e : Env) : Option AO → Option V
  | some x => some (opv e x)
  | none => none

/-- No operand is dead. -/
def V.live : V → Bool
  | .dead => false
  | _ => true

/-- l with cs laid over it from a place on. -/
def spl : List V → Nat → List V → List V
  | l, _, [] => l
  | [], _, _ :: _ => []
  | _ :: l, 0, c :: cs => c :: spl l 0 cs
  | a :: l, n + 1, c :: cs => a :: spl l n (c :: cs)

def fillA : List (Nat × Nat × V) → List V → Option (List V)
  | [], z => some z
  | (off, size, v) :: r, z =>
    if v.live && Nat.beq v.cells.length size && Nat.ble (off + size) z.length then fillA r (spl z off v.cells) else none
def parts (e : Env) (l : List (Nat × Nat × AO)) : List (Nat × Nat × V) := l.map fun (o, s, x) => (o, s, opv e x)

def allOne : List V → Bool
  | [] => true
  | v :: l => v.one && allOne l

def cmpInt (op : BinOp) (a b : Int) : Option Bool :=
  match op with
  | .eql => some (a == b)
  | .neq => some (a != b)
  | .lss => some (decide (a < b))
  | .leq => some (decide (a ≤ b))
  | .gtr => some (decide (a > b))
  | .geq => some (decide (a ≥ b))
  | _ => none
def arith (op : BinOp) (k : IntKind) (a b : Int) : Option Int :=
  match op with
  | .add => some (k.wrap (a + b))
  | .sub => some (k.wrap (a - b))
  | .mul => some (k.wrap (a * b))
  | .quo => if b = 0 then none else some (k.wrap (a.tdiv b))
  | .rem => if b = 0 then none else some (a.tmod b)
  | .and => some (k.wrap (BitVec.ofInt k.bits a &&& BitVec.ofInt k.bits b).toNat)
  | .or => some (k.wrap (BitVec.ofInt k.bits a ||| BitVec.ofInt k.bits b).toNat)
  | .xor => some (k.wrap (BitVec.ofInt k.bits a ^^^ BitVec.ofInt k.bits b).toNat)
  | .andNot => some (k.wrap (BitVec.ofInt k.bits a &&& ~~~BitVec.ofInt k.bits b).toNat)
  | _ => none
def shiftI (op : BinOp) (k : IntKind) (a b : Int) : Option Int :=
  if b < 0 then none else
  match op with
  | .shl => some (k.wrap (a * 2 ^ (Nat.min b.toNat k.bits)))
  | .shr => some (a.fdiv (2 ^ (Nat.min b.toNat k.bits)))
  | _ => none
def strOp (op : BinOp) (a b : BS) : Option V :=
  match op with
  | .add => match Nat.ble (Nat.add a.len b.len) 1000000000000 with
    | true => some (.str (a.cat b))
    | false => none
  | .eql => some (.bool (a.beq b))
  | .neq => some (.bool (not (a.beq b)))
  | .lss => some (.bool (Op.bytesLess a.toList b.toList))
  | .leq => some (.bool (Op.bytesLess a.toList b.toList || a.beq b))
  | .gtr => some (.bool (not (Op.bytesLess a.toList b.toList || a.beq b)))
  | .geq => some (.bool (not (Op.bytesLess a.toList b.toList)))
  | _ => none

def eqF (a b : Int) : Bool := match a, b with
  | .ofNat m, .ofNat n => Nat.beq m n
  | .negSucc m, .negSucc n => Nat.beq m n
  | _, _ => false
theorem eqF_eq (a b : Int) : eqF a b = (a == b) := by
  cases a <;> cases b <;> simp only [eqF] <;> (rw [Bool.eq_iff_iff]; simp [Nat.beq_eq]) <;> omega
def eqCell : FK → V → V → Option Bool
  | .int, .int k a, .int k' b => if k = k' then some (eqF a b) else none
  | .bool, .bool a, .bool b => some (a == b)
  | .str, .str a, .str b => some (a.beq b)
  | _, _, _ => none
def cellAt : List V → Nat → V
  | [], _ => .dead
  | v :: _, 0 => v
  | _ :: l, n + 1 => cellAt l n
def eqFlat : List (Nat × FK) → List V → List V → Option Bool
  | [], _, _ => some true
  | (o, k) :: r, xs, ys => match eqCell k (cellAt xs o) (cellAt ys o) with
    | some a => match eqFlat r xs ys with
      | some b => some (a && b)
      | none => none
    | none => none

/-- A map's keys. -/
def eqM : ETag → V → V → Option Bool
  | .flat l, .agg xs, .agg ys => eqFlat l xs ys
  | _, _, _ => none
def keyOk (t : ETag) (x : V) : Bool := match eqM t x x with
  | some _ => true
  | none => false
def findM (t : ETag) (k : V) : List (V × V) → Option (Option V)
  | [] => some none
  | (q, v) :: l => match eqM t k q with
    | some true => some (some v)
    | some false => findM t k l
    | none => none

def eqTag : ETag → V → V → Option Bool
  | .flat l, .agg xs, .agg ys => eqFlat l xs ys
  | .bool, .bool a, .bool b => some (a == b)
  | .ptr, .nilp, .nilp => some true
  | .ptr, .nilp, .ptr _ _ => some false
  | .ptr, .ptr _ _, .nilp => some false
  | .slice, .nils, .nils => some true
  | .slice, .nils, .sl _ _ _ _ => some false
  | .slice, .sl _ _ _ _, .nils => some false
  | .slice, .nils, .sle _ _ _ _ => some false
  | .slice, .sle _ _ _ _, .nils => some false
  | .map, .nilm, .nilm => some true
  | .map, .nilm, .mp _ => some false
  | .map, .mp _, .nilm => some false
  | .func, .nilf, .nilf => some true
  | .func, .nilf, .fn _ _ _ => some false
  | .func, .fn _ _ _, .nilf => some false
  | .iface true, .nili, .nili => some true
  | .iface _, .nili, .ifc _ _ => some false
  | .iface _, .ifc _ _, .nili => some false
  | _, _, _ => none

def binV (op : BinOp) (t : ETag) (x y : V) : Option V :=
  match x, y with
  | .int k a, .int k' b =>
    match op with
    | .shl | .shr => (shiftI op k a b).map (.int k)
    | .add | .sub | .mul | .quo | .rem | .and | .or | .xor | .andNot => if k = k' then (arith op k a b).map (.int k) else none
    | _ => if k = k' then (cmpInt op a b).map .bool else none
  | .str a, .str b => strOp op a b
  | x, y =>
    match op with
    | .eql => (eqTag t x y).map .bool
    | .neq => (eqTag t x y).map fun b => .bool !b
    | _ => none

def unV (op : UnOp) (x : V) : Option V :=
  match op, x with
  | .neg, .int k n => some (.int k (k.wrap (0 - n)))
  | .xor, .int k n => some (.int k (k.wrap (BitVec.ofInt k.bits (if k.signed then -1 else k.max) ^^^ BitVec.ofInt k.bits n).toNat))
  | .not, .bool b => some (.bool !b)
  | _, _ => none

def ints (l : List UInt8) : List V := l.map fun b => .int .u8 b.toNat
/-- The bytes that cells are. -/
def bytesOf : List V → Option (List UInt8)
  | [] => some []
  | .int .u8 n :: l => (bytesOf l).map (UInt8.ofNat n.toNat :: ·)
  | _ => none

/-- A part of a block. -/
def rdN (E : List (Nat × Blk)) (σ : H) (b off n : Nat) : Option (List V) :=
  match rd E σ b with
  | some l => if Nat.ble (off + n) l.length then some ((l.drop off).take n) else none
  | none => none

def V.isStr : V → Bool
  | .str _ => true
  | _ => false
/-- The elements that a slice, or a string, has (n of them). -/
def srcCells (E : List (Nat × Blk)) (σ : H) (esz : Nat) : V → Option (Nat × List V)
  | .nils => some (0, [])
  | .sle _ _ _ _ => some (0, [])
  | .sl b off len _ => (rdN E σ b off (len * esz)).map fun l => (len, l)
  | .str l => if esz = 1 then some (l.len, ints l.toList) else none
  | _ => none

def growable (need bytes : Nat) : Bool := Nat.ble (need * bytes) 140737488355328 && Nat.ble need 9223372036854775807

def appendV (E : List (Nat × Blk)) (esz bytes : Nat) (s x : V) (σ : H) : Option (V × H) :=
  match srcCells E σ esz x with
  | none => none
  | some (n, new) =>
    match s with
    | .nils =>
      if n = 0 then some (.nils, σ)
      else if growable n bytes then some (.sl σ.next 0 n (.op esz), σ.add (.cells new)) else none
    | .sl b off len (.ex c) =>
      if Nat.ble (len + n) c then
        if n = 0 then some (s, σ) else
        match look σ.bl b with
        | some (.cells l) => if Nat.ble (off + (len + n) * esz) l.length && allOne new then some (.sl b off (len + n) (.ex c), σ.set b (.cells (spl l (off + len * esz) new))) else none
        | _ => none
      else if growable (len + n) bytes then
        match rdN E σ b off (len * esz) with
        | some old => some (.sl σ.next 0 (len + n) (.op esz), σ.add (.cells (old ++ new)))
        | none => none
      else none
    | .sl b 0 len (.op e) =>
      if n = 0 then some (s, σ) else
      match look σ.bl b with
      | some (.cells l) =>
        if Nat.beq l.length (len * esz) && Nat.beq e esz && growable (len + n) bytes && allOne new then some (.sl σ.next 0 (len + n) (.op esz), (σ.del b).add (.cells (l ++ new))) else none
      | _ => none
    | .sl _ _ _ (.op _) => if n = 0 then some (s, σ) else none
    | _ => none

/-- A bound of a slice expression. -/
def bnd : Option V → Nat → Option Nat
  | none, d => some d
  | some (.int _ n), _ => if 0 ≤ n then some n.toNat else none
  | _, _ => none

def sliceV (esz : Nat) (x : V) (lo hi mx : Option V) : Option V :=
  match x with
  | .nils =>
    match bnd mx 0 with
    | none => none
    | some m => match bnd hi 0 with
      | none => none
      | some h => match bnd lo 0 with
        | none => none
        | some l => if Nat.ble l h && Nat.ble h m && Nat.beq m 0 then some .nils else none
  | .sl b off len (.ex c) =>
    match bnd mx c with
    | none => none
    | some m => match bnd hi len with
      | none => none
      | some h => match bnd lo 0 with
        | none => none
        | some l => if Nat.ble l h && Nat.ble h m && (mx.isNone || Nat.ble m c) then some (.sl b (if Nat.beq m l then off else off + l * esz) (h - l) (.ex (m - l))) else none
  | .sl b off len (.op e) =>
    match bnd hi len with
    | none => none
    | some h => match bnd lo 0 with
      | none => none
      | some l =>
        match mx with
        | none =>
          if Nat.ble l h && Nat.ble h len && Nat.beq e esz then
            if Nat.beq l len then (if Nat.beq l 0 then some x else some (.sle b off l e)) else some (.sl b (off + l * esz) (h - l) (.op e))
          else none
        | some v => match bnd (some v) 0 with
          | none => none
          | some m => if Nat.ble l h && Nat.ble h m && Nat.ble m len then some (.sl b (if Nat.beq m l then off else off + l * esz) (h - l) (.ex (m - l))) else none
  | .sle _ _ _ _ =>
    match bnd hi 0 with
    | none => none
    | some h => match bnd lo 0 with
      | none => none
      | some l => match mx with
        | none => if Nat.beq h 0 && Nat.beq l 0 then some x else none
        | some _ => none
  | _ => none

def sliceArrV (n esz : Nat) (x : V) (lo hi mx : Option V) : Option V :=
  match x with
  | .ptr b off =>
    match bnd mx n with
    | none => none
    | some m => match bnd hi n with
      | none => none
      | some h => match bnd lo 0 with
        | none => none
        | some l => if Nat.ble l h && Nat.ble h m && Nat.ble m n then some (.sl b (if Nat.beq m l then off else off + l * esz) (h - l) (.ex (m - l))) else none
  | _ => none

def sliceStrV (x : V) (lo hi : Option V) : Option V :=
  match x with
  | .str s =>
    match bnd hi s.len with
    | none => none
    | some h => match bnd lo 0 with
      | none => none
      | some l => if Nat.ble l h && Nat.ble h s.len then some (.str (s.sub l h)) else none
  | _ => none

def minI : V → List V → Option V
  | x, [] => some x
  | .int k a, .int k' b :: l => if k = k' then minI (.int k (if b < a then b else a)) l else none
  | _, _ :: _ => none
def maxI : V → List V → Option V
  | x, [] => some x
  | .int k a, .int k' b :: l => if k = k' then maxI (.int k (if b > a then b else a)) l else none
  | _, _ :: _ => none

def fieldV (l : List V) (off : Nat) : Option Nat → Option V
  | none => l[off]?
  | some n => if Nat.ble (off + n) l.length then some (.agg ((l.drop off).take n)) else none

/-- An operation that hangs on its operands alone. -/
def aopP (o : AOp) (e : Env) : Option V :=
  match o with
  | .mov x => let v := opv e x; if v.live then some v else none
  | .pick c a b =>
    match opv e c with
    | .bool true => let v := opv e a; if v.live then some v else none
    | .bool false => let v := opv e b; if v.live then some v else none
    | _ => none
  | .build z ps => match fillA (parts e ps) z with
    | some l => some (.agg l)
    | none => none
  | .nilck x => match opv e x with
    | .ptr b off => some (.ptr b off)
    | _ => none
  | .bin op t x y => binV op t (opv e x) (opv e y)
  | .un op x => unV op (opv e x)
  | .conv (.toInt k) x => match opv e x with
    | .int _ n => some (.int k (k.wrap n))
    | _ => none
  | .conv .same x => match opv e x with
    | .str l => some (.str l)
    | _ => none
  | .mkifc t x => let v := opv e x; if v.live then some (.ifc t v) else none
  | .mkfn f a c => if (opvs e a).all V.live && (opvs e c).all V.live then some (.fn f (opvs e a) (opvs e c)) else none
  | .sliceStr x lo hi => sliceStrV (opv e x) (opvo e lo) (opvo e hi)
  | .sliceSl esz x lo hi mx => sliceV esz (opv e x) (opvo e lo) (opvo e hi) (opvo e mx)
  | .sliceArr n esz x lo hi mx => sliceArrV n esz (opv e x) (opvo e lo) (opvo e hi) (opvo e mx)
  | .faddr off x => match opv e x with
    | .ptr b o => some (.ptr b (o + off))
    | _ => none
  | .field off none x => match opv e x with
    | .agg l => l[off]?
    | _ => none
  | .field off (some n) x => match opv e x with
    | .agg l => if Nat.ble (off + n) l.length then some (.agg ((l.drop off).take n)) else none
    | _ => none
  | .iaddrS esz x i => match opv e x, opv e i with
    | .sl b off len _, .int _ n => if 0 ≤ n ∧ n < len then some (.ptr b (off + n.toNat * esz)) else none
    | _, _ => none
  | .iaddrA len esz x i => match opv e x, opv e i with
    | .ptr b off, .int _ n => if 0 ≤ n ∧ n < len then some (.ptr b (off + n.toNat * esz)) else none
    | _, _ => none
  | .idxStr x i => match opv e x, opv e i with
    | .str s, .int _ n => if 0 ≤ n then (if Nat.blt n.toNat s.len then some (.int .u8 (s.get n.toNat)) else none) else none
    | _, _ => none
  | .extract i x => match opv e x with
    | .tup l => l[i]?
    | _ => none
  | .load0 x => match opv e x with
    | .ptr _ _ => some (.agg [])
    | _ => none
  | .idxArr len esz s x i => match opv e x, opv e i with
    | .agg l, .int _ n => if 0 ≤ n ∧ n < len then fieldV l (n.toNat * esz) s else none
    | _, _ => none
  | .len true x => match opv e x with
    | .str s => some (.int .i64 s.len)
    | _ => none
  | .len false x => match opv e x with
    | .nils => some (.int .i64 0)
    | .sl _ _ n _ => some (.int .i64 n)
    | .sle _ _ _ _ => some (.int .i64 0)
    | _ => none
  | .lenC n => some (.int .i64 n)
  | .cap x => match opv e x with
    | .nils => some (.int .i64 0)
    | .sl _ _ _ (.ex c) => some (.int .i64 c)
    | _ => none
  | .min x l => match minI (opv e x) (opvs e l) with
    | some (.int k n) => some (.int k n)
    | _ => none
  | .max x l => match maxI (opv e x) (opvs e l) with
    | some (.int k n) => some (.int k n)
    | _ => none
  | _ => none

def lookupV (t : ETag) (z m x : V) (σ : H) : Option V := match m with
  | .mp b => match look σ.bl b with
    | some (.map l) => if keyOk t x then (match findM t x l with
      | some (some v) => some (.tup [v, .bool true])
      | some none => if z.live then some (.tup [z, .bool false]) else none
      | none => none) else none
    | _ => none
  | _ => none
def mapsetV (t : ETag) (m k v : V) (σ : H) : Option (V × H) := match m with
  | .mp b => match look σ.bl b with
    | some (.map l) => if keyOk t k && v.live then (match findM t k l with
      | some none => some (.dead, σ.set b (.map (l ++ [(k, v)])))
      | _ => none) else none
    | _ => none
  | _ => none

/-- The first field of a variable that has no cell. -/
def faddr0V (t : TypeId) (x : V) (σ : H) : Option V := match x with
  | .ptr b 0 => match look σ.bl b with
    | some (.unit t') => if Nat.beq t t' then some (.ptr b 0) else none
    | _ => none
  | _ => none

/-- An operation that only reads memory. -/
def aopL (E : List (Nat × Blk)) (o : AOp) (e : Env) (σ : H) : Option V :=
  match o with
  | .load none x => match opv e x with
    | .ptr b off => match rd E σ b with
      | some l => l[off]?
      | none => none
    | _ => none
  | .load (some n) x => match opv e x with
    | .ptr b off => match rdN E σ b off n with
      | some l => some (.agg l)
      | none => none
    | _ => none
  | .conv .toStr x => if (opv e x).isStr then none else match srcCells E σ 1 (opv e x) with
    | some (_, l) => match bytesOf l with
      | some s => some (.str (BS.ofList s))
      | none => none
    | none => none
  | .lookup t z m x => lookupV t z (opv e m) (opv e x) σ
  | .faddr0 t x => faddr0V t (opv e x) σ
  | _ => none

/-- An operation that makes one block, out of its operands alone. -/
def aopA (o : AOp) (e : Env) (next : Nat) : Option (V × Blk) :=
  match o with
  | .alloc _ z => some (.ptr next 0, .cells z)
  | .box _ x => let v := opv e x; if v.live && allOne v.cells then some (.ptr next 0, .cells v.cells) else none
  | .buildSlice _ n z ps => match fillA (parts e ps) z with
    | some l => if allOne l then some (.sl next 0 n (.ex n), .cells l) else none
    | none => none
  | .conv (.toBytes _) x => match opv e x with
    | .str l => if Nat.ble l.len 1000000000000 then some (.sl next 0 l.len (.op 1), .cells (ints l.toList)) else none
    | _ => none
  | .mkslice _ _ bytes z len cap => match opv e len, opv e cap with
    | .int .i64 n, .int .i64 c =>
      if 0 ≤ n ∧ n ≤ c ∧ c * bytes ≤ 281474976710656 ∧ c ≤ 1000000000000 then some (.sl next 0 n.toNat (.ex c.toNat), .cells (List.replicate c.toNat z).flatten) else none
    | _, _ => none
  | .mkmap => some (.mp next, .map [])
  | .alloc0 el => some (.ptr next 0, .unit el)
  | .box0 el x => match opv e x with
    | .agg [] => some (.ptr next 0, .unit el)
    | _ => none
  | _ => none

/-- An operation that writes memory. -/
def aopK (E : List (Nat × Blk)) (o : AOp) (e : Env) (σ : H) : Option (V × H) :=
  match o with
  | .store n x v => match opv e x with
    | .ptr b off =>
      let cs := (opv e v).cells
      match look σ.bl b with
      | some (.cells l) => if Nat.beq cs.length n && Nat.ble (off + n) l.length && allOne cs then some (.dead, σ.set b (.cells (spl l off cs))) else none
      | _ => none
    | _ => none
  | .append _ esz bytes s x => appendV E esz bytes (opv e s) (opv e x) σ
  | .copy esz d s => match opv e d, srcCells E σ esz (opv e s) with
    | .nils, some (_, _) => some (.int .i64 0, σ)
    | .sle _ _ _ _, some (_, _) => some (.int .i64 0, σ)
    | .sl b off len _, some (n, src) =>
      let m := Nat.min n len
      if m = 0 then some (.int .i64 0, σ) else
      match look σ.bl b with
      | some (.cells l) => if Nat.ble (off + m * esz) l.length && allOne (src.take (m * esz)) then some (.int .i64 m, σ.set b (.cells (spl l off (src.take (m * esz))))) else none
      | _ => none
    | _, _ => none
  | .mapset t m k v => mapsetV t (opv e m) (opv e k) (opv e v) σ
  | .store0 x v => match opv e x, opv e v with
    | .ptr _ _, .agg [] => some (.dead, σ)
    | _, _ => none
  | _ => none

inductive Cls where
  | p | l | a | k
  deriving DecidableEq, Inhabited
def AOp.cls : AOp → Cls
  | .load _ _ | .conv .toStr _ | .lookup _ _ _ _ | .faddr0 _ _ => .l
  | .alloc _ _ | .box _ _ | .buildSlice _ _ _ _ | .conv (.toBytes _) _ | .mkslice _ _ _ _ _ _ | .mkmap | .alloc0 _ | .box0 _ _ => .a
  | .store _ _ _ | .append _ _ _ _ _ | .copy _ _ _ | .call _ _ | .callv _ _ | .mapset _ _ _ _ | .store0 _ _ => .k
  | _ => .p

/-- An operation that enters no function. -/
def aop (E : List (Nat × Blk)) (o : AOp) (e : Env) (σ : H) : Option (V × H) :=
  match o.cls with
  | .p => match aopP o e with
    | some v => some (v, σ)
    | none => none
  | .l => match aopL E o e σ with
    | some v => some (v, σ)
    | none => none
  | .a => match aopA o e σ.next with
    | some (v, b) => some (v, σ.add b)
    | none => none
  | .k => aopK E o e σ

abbrev Den := FuncId → List V → H → Option (V × H)

def putE (e : Env) : Option Nat → V → Env
  | some d, v => (d, v) :: e
  | none, _ => e

/-- One operation. -/
def den1 (E : List (Nat × Blk)) (D : Den) (o : AOp) (e : Env) (σ : H) : Option (V × H) :=
  match o with
  | .call f args => if (opvs e args).all V.live then D f (opvs e args) σ else none
  | .callv f args => match opv e f with
    | .fn g first cap => if (opvs e args).all V.live then D g (first ++ opvs e args ++ cap) σ else none
    | _ => none
  | o => aop E o e σ

/-- What an operation leaves that is not carried out. -/
def undefV : V := .tup []

/-- Is an operation carried out? -/
def wantedA (e : Env) : Option (Nat × Bool) → Option Bool
  | none => some true
  | some (t, b) => match getE e t with
    | .bool c => some (c == b)
    | .tup [] => some false
    | _ => none

def denOps (E : List (Nat × Blk)) (D : Den) : List AOper → Env → H → Option (Env × H)
  | [], e, σ => some (e, σ)
  | o :: r, e, σ =>
    match wantedA e o.guard with
    | none => none
    | some false => denOps E D r (putE e o.dst undefV) σ
    | some true => match den1 E D o.op e σ with
      | none => none
      | some (v, σ') => denOps E D r (putE e o.dst v) σ'

/-! ### regions whose order is open -/
def memN : List Nat → Nat → Bool
  | [], _ => false
  | a :: l, k => Nat.beq a k || memN l k
/-- These temporaries alone. -/
def restr : List Nat → Env → Env
  | [], _ => []
  | t :: l, e => match look e t with
    | some v => (t, v) :: restr l e
    | none => restr l e

/-- Without the blocks n0 + i (i below n) of which p is false. -/
def hideB (n0 n : Nat) (p : Nat → Bool) : List (Nat × Blk) → List (Nat × Blk)
  | [] => []
  | (id, b) :: l => if Nat.ble n0 id && Nat.blt id (n0 + n) && !p (id - n0) then hideB n0 n p l else (id, b) :: hideB n0 n p l
/-- Those blocks alone. -/
def keepB (n0 n : Nat) (p : Nat → Bool) : List (Nat × Blk) → List (Nat × Blk)
  | [] => []
  | (id, b) :: l => if Nat.ble n0 id && Nat.blt id (n0 + n) && !p (id - n0) then (id, b) :: keepB n0 n p l else keepB n0 n p l

/-- 'ss': the blocks behind each operation that writes, the newest first; 'ks': those operations; 'am': those that made a block, as bits; 'ls': what was read. -/
structure DS where
  e : Env
  nx : Nat
  ss : List (List (Nat × Blk))
  ks : List Nat
  am : Nat
  ls : List (Nat × AOp × Env × V)

def visK (anc am : Nat) (k : Nat) : Bool := anc.testBit k && am.testBit k

def dstep (E : List (Nat × Blk)) (D : Den) (n0 n i : Nat) (o : AOper) (p : DP) (s : DS) : Option DS :=
  match wantedA (restr p.looks s.e) o.guard with
  | none => none
  | some false => some { s with e := putE s.e o.dst undefV }
  | some true =>
    match o.op.cls with
    | .p => match aopP o.op (restr p.looks s.e) with
      | none => none
      | some v => some { s with e := putE s.e o.dst v }
    | .l => match s.ss with
      | [] => none
      | h :: _ => match aopL E o.op (restr p.looks s.e) ⟨s.nx, hideB n0 n (visK p.anc s.am) h⟩ with
        | none => none
        | some v => some { s with e := putE s.e o.dst v, ls := (i, o.op, restr p.looks s.e, v) :: s.ls }
    | .a => match aopA o.op (restr p.looks s.e) (n0 + i) with
      | none => none
      | some (v, b) => some { s with e := putE s.e o.dst v, ss := s.ss.map ((n0 + i, b) :: ·), am := s.am ||| 2 ^ i }
    | .k => match s.ss with
      | [] => none
      | h :: _ => match den1 E D o.op (restr p.looks s.e) ⟨s.nx, hideB n0 n (visK p.anc s.am) h⟩ with
        | none => none
        | some (v, σ') => some { s with e := putE s.e o.dst v, nx := σ'.next, ss := (keepB n0 n (visK p.anc s.am) h ++ σ'.bl) :: s.ss, ks := i :: s.ks }

def dsteps (E : List (Nat × Blk)) (D : Den) (n0 n : Nat) : Nat → List AOper → List DP → DS → Option DS
  | _, [], _, s => some s
  | i, o :: l, p :: pl, s => match dstep E D n0 n i o p s with
    | none => none
    | some s' => dsteps E D n0 n (i + 1) l pl s'
  | _, _ :: _, [], _ => none

mutual
def V.beq : V → V → Bool
  | .bool a, .bool b => a == b
  | .int k a, .int l b => decide (k = l) && a == b
  | .str a, .str b => decide (a = b)
  | .nilp, .nilp => true
  | .ptr a b, .ptr c d => Nat.beq a c && Nat.beq b d
  | .nils, .nils => true
  | .sl a b c x, .sl d e f y => Nat.beq a d && Nat.beq b e && Nat.beq c f && decide (x = y)
  | .sle a b c x, .sle d e f y => Nat.beq a d && Nat.beq b e && Nat.beq c f && Nat.beq x y
  | .nilm, .nilm => true
  | .mp a, .mp b => Nat.beq a b
  | .fn f a b, .fn g c d => Nat.beq f g && beqs a c && beqs b d
  | .nilf, .nilf => true
  | .ifc t v, .ifc u x => Nat.beq t u && V.beq v x
  | .nili, .nili => true
  | .agg l, .agg m => beqs l m
  | .tup l, .tup m => beqs l m
  | _, _ => false
def beqs : List V → List V → Bool
  | [], [] => true
  | a :: l, b :: m => V.beq a b && beqs l m
  | _, _ => false
end

/-- May the load j be carried out behind just those operations that write? 'ks': these, the newest first; 'more': the later ones. -/
def legal (pl : List DP) (j : Nat) (ks more : List Nat) : Bool :=
  more.all (fun k => !((pl.getD j ⟨0, []⟩).anc.testBit k)) && ks.all (fun k => !((pl.getD k ⟨0, []⟩).anc.testBit j))
def checkL (E : List (Nat × Blk)) (n0 n : Nat) (pl : List DP) (am : Nat) (j : Nat) (op : AOp) (em : Env) (v : V) : List (List (Nat × Blk)) → List Nat → List Nat → Bool
  | [], _, _ => true
  | h :: ss, ks, more =>
    (!legal pl j ks more || (match aopL E op em ⟨0, hideB n0 n (visK (pl.getD j ⟨0, []⟩).anc am) h⟩ with
      | some u => V.beq u v
      | none => false)) &&
    (match ks with
      | [] => true
      | k :: ks' => checkL E n0 n pl am j op em v ss ks' (k :: more))

def drawW (E : List (Nat × Blk)) (D : Den) (ops : List AOper) (pl : List DP) (e : Env) (σ : H) : Option (Env × H) :=
  match dsteps E D σ.next ops.length 0 ops pl ⟨e, σ.next + ops.length, [σ.bl], [], 0, []⟩ with
  | none => none
  | some s =>
    if s.ls.all (fun (j, op, em, v) => checkL E σ.next ops.length pl s.am j op em v s.ss s.ks []) then
      match s.ss with
      | h :: _ => some (s.e, ⟨s.nx, hideB σ.next ops.length (fun k => s.am.testBit k) h⟩)
      | [] => none
    else none

end Go.Og

namespace Go.Og

def absCell : Value → V
  | .bool b => .bool b
  | .int k n => .int k n
  | .string s => .str (BS.ofList s.data.toList)
  | .pointer none => .nilp
  | .slice none 0 0 => .nils
  | .map none => .nilm
  | .nilFunc => .nilf
  | .nilIface => .nili
  | _ => .dead
def absV : Value → V
  | .agg cs => if (cs.toList.map absCell).all V.live then .agg (cs.toList.map absCell) else .dead
  | v => absCell v
def absZ (v : Value) : Option (List V) := if (v.cells.toList.map absCell).all V.live then some (v.cells.toList.map absCell) else none

def compO (G : Nat → Bool) : Operand → AO
  | .tmp t => .tmp t
  | .const v => .con (absV v)
  | .global g => if G g then .con (.ptr g 0) else .con .dead
  | .func f => .con (.fn f [] [])

/-- One cell, or an aggregate of so many. -/
def shapeOf (P : Program) (t : TypeId) : Option (Option Nat) :=
  match P.underlying t, P.info? t with
  | some (.struct _), some i => some (some i.size)
  | some (.array _ _), some i => some (some i.size)
  | some _, some _ => some none
  | _, _ => none
def sizeO (P : Program) (t : TypeId) : Option Nat := (P.info? t).map (·.size)
def zeroO (P : Program) (t : TypeId) : Option (List V) :=
  match P.info? t with
  | some i => match i.zero with
    | some z => absZ z
    | none => none
  | none => none

def isLit : Operand → Bool
  | .const _ => true
  | _ => false

def flatOf (P : Program) : List Field → Option (List (Nat × FK))
  | [] => some []
  | f :: fs => match f.name == "_", flatOf P fs with
    | true, r => r
    | false, some r => match P.underlying f.type with
      | some (.int _) => some ((f.offset, .int) :: r)
      | some .bool => some ((f.offset, .bool) :: r)
      | some .string => some ((f.offset, .str) :: r)
      | _ => none
    | false, none => none
def etagFlat (P : Program) (t : TypeId) (fs : List Field) : ETag :=
  match P.stoodInHeld t || P.eqGuardType P.depth t, flatOf P fs with
  | false, some l => .flat l
  | _, _ => .none

/-- How a map's keys are held against each other. -/
def ktag (P : Program) (t : TypeId) : ETag :=
  match P.underlying t with
  | some (.struct fs) => etagFlat P t fs.toList
  | _ => .none
def zeroVV (P : Program) (t : TypeId) : V :=
  match P.info? t with
  | some i => match i.zero with
    | some z => absV z
    | none => .dead
  | none => .dead

def etag (P : Program) (op : BinOp) (t : TypeId) (x y : Operand) : ETag :=
  match op with
  | .eql | .neq =>
    match P.underlying t with
    | some .bool => .bool
    | some (.struct fs) => etagFlat P t fs.toList
    | some (.pointer _) => .ptr
    | some (.slice _) => .slice
    | some (.map _ _) => .map
    | some (.func _ _ _) => .func
    | some (.interface _) => .iface (isLit x || isLit y)
    | _ => .none
  | _ => .none

def ctag (P : Program) (s d : TypeId) : CTag :=
  match P.underlying s, P.underlying d with
  | some _, some (.int k) => .toInt k
  | some .string, some .string => .same
  | some .string, some (.slice e) => match P.underlying e with
    | some (.int .u8) => .toBytes e
    | _ => .bad
  | some (.slice e), some .string => match P.underlying e with
    | some (.int .u8) => .toStr
    | _ => .bad
  | _, _ => .bad

/-- May a function be entered? -/
def callOk (P : Program) (f : FuncId) : Bool :=
  match P.funcs[f]? with
  | some fn => fn.name != "runtime.NumGoroutine" && fn.body.isSome
  | none => false

def isSeq : TypeDesc → Bool
  | .string => true
  | .slice _ => true
  | _ => false

def compB (P : Program) (G : Nat → Bool) (b : Builtin) (ts : Array TypeId) (args : Array Operand) : AOp :=
  match b, ts.toList, args.toList with
  | .len, [t], [x] => match P.underlying t with
    | some .string => .len true (compO G x)
    | some (.slice _) => .len false (compO G x)
    | some (.array n _) => .lenC n
    | some (.pointer a) => match P.underlying a with
      | some (.array n _) => .lenC n
      | _ => .bad
    | _ => .bad
  | .cap, [t], [x] => match P.underlying t with
    | some (.slice _) => .cap (compO G x)
    | _ => .bad
  | .append, [t, u], [s, x] => match P.underlying t, P.underlying u with
    | some (.slice e), some du => match P.info? e with
      | some i => match i.zero with
        | some z => if !(isSeq du) || i.size == 0 || z.cells.size != i.size then .bad else .append e i.size i.bytes (compO G s) (compO G x)
        | none => .bad
      | none => .bad
    | _, _ => .bad
  | .copy, [t, u], [d, s] => match P.underlying t, P.underlying u with
    | some (.slice e), some _ => match P.info? e with
      | some i => .copy i.size (compO G d) (compO G s)
      | none => .bad
    | _, _ => .bad
  | .min, _, x :: l => .min (compO G x) (l.map (compO G))
  | .max, _, x :: l => .max (compO G x) (l.map (compO G))
  | _, _, _ => .bad

/-- The places of a struct's fields. -/
def places (P : Program) : List Field → Option (List (Nat × Nat))
  | [] => some []
  | f :: l => match P.info? f.type, places P l with
    | some i, some r => some ((f.offset, i.size) :: r)
    | _, _ => none
def compParts (G : Nat → Bool) (place : Nat → Option (Nat × Nat)) : List (Nat × Operand) → Option (List (Nat × Nat × AO))
  | [] => some []
  | (i, x) :: l => match place i, compParts G place l with
    | some (o, s), some r => some ((o, s, compO G x) :: r)
    | _, _ => none

def compOp (P : Program) (G : Nat → Bool) (op : Op) : AOp :=
  match op with
  | .move x | .assign x => .mov (compO G x)
  | .pick c a b => .pick (compO G c) (compO G a) (compO G b)
  | .alloc el => match zeroO P el with
    | some [] => .alloc0 el
    | some z => .alloc el z
    | none => .bad
  | .box el x => match zeroO P el with
    | some [] => .box0 el (compO G x)
    | _ => .box el (compO G x)
  | .build t ps =>
    match P.underlying t, zeroO P t with
    | some (.struct fs), some z => match places P fs.toList with
      | some pl => match compParts G (pl[·]?) ps.toList with
        | some l => .build z l
        | none => .bad
      | none => .bad
    | some (.array _ el), some z => match sizeO P el with
      | some s => match compParts G (fun i => some (i * s, s)) ps.toList with
        | some l => .build z l
        | none => .bad
      | none => .bad
    | _, _ => .bad
  | .buildSlice t n ps =>
    match P.underlying t with
    | some (.slice el) => match sizeO P el, zeroO P el with
      | some s, some z => match compParts G (fun i => some (i * s, s)) ps.toList with
        | some l => if n * s > 2 ^ 24 || z.length != s then .bad else .buildSlice el n (List.replicate n z).flatten l
        | none => .bad
      | _, _ => .bad
    | _ => .bad
  | .load t x => match shapeOf P t with
    | some (some 0) => .load0 (compO G x)
    | some s => .load s (compO G x)
    | none => .bad
  | .store t x v => match sizeO P t with
    | some 0 => .store0 (compO G x) (compO G v)
    | some n => .store n (compO G x) (compO G v)
    | none => .bad
  | .nilCheck x => .nilck (compO G x)
  | .binOp o t x y _ => .bin o (etag P o t x y) (compO G x) (compO G y)
  | .unOp o _ x => .un o (compO G x)
  | .convert s d x => .conv (ctag P s d) (compO G x)
  | .makeInterface t x => match P.underlying t with
    | some (.interface _) => .bad
    | some _ => .mkifc t (compO G x)
    | none => .bad
  | .makeFunc (.func f) a c => .mkfn f (a.toList.map (compO G)) (c.toList.map (compO G))
  | .makeSlice t l c => match P.underlying t with
    | some (.slice el) => match P.info? el, zeroO P el with
      | some i, some z => if z.length != i.size then .bad else .mkslice el i.size i.bytes z (compO G l) (compO G c)
      | _, _ => .bad
    | _ => .bad
  | .slice t x lo hi mx => if mx.isSome && !hi.isSome then .bad else match P.underlying t with
    | some .string => match mx with
      | none => .sliceStr (compO G x) (lo.map (compO G)) (hi.map (compO G))
      | some _ => .bad
    | some (.slice el) => match sizeO P el with
      | some s => .sliceSl s (compO G x) (lo.map (compO G)) (hi.map (compO G)) (mx.map (compO G))
      | none => .bad
    | some (.array n el) => match sizeO P el with
      | some s => .sliceArr n s (compO G x) (lo.map (compO G)) (hi.map (compO G)) (mx.map (compO G))
      | none => .bad
    | _ => .bad
  | .fieldAddr s x f => match P.underlying s with
    | some (.struct fs) => match fs[f]? with
      | some fd => match sizeO P fd.type with
        | some 0 => if fd.offset == 0 && fd.byteOffset == 0 && P.cellsOf s == 0 then .faddr0 s (compO G x) else .bad
        | some _ => .faddr fd.offset (compO G x)
        | none => .bad
      | none => .bad
    | _ => .bad
  | .field s x f => match P.underlying s with
    | some (.struct fs) => match fs[f]? with
      | some fd => match shapeOf P fd.type with
        | some n => .field fd.offset n (compO G x)
        | none => .bad
      | none => .bad
    | _ => .bad
  | .indexAddr t x i => match P.underlying t with
    | some (.slice el) => match sizeO P el with
      | some s => .iaddrS s (compO G x) (compO G i)
      | none => .bad
    | some (.array n el) => match sizeO P el with
      | some s => .iaddrA n s (compO G x) (compO G i)
      | none => .bad
    | _ => .bad
  | .index t x i => match P.underlying t with
    | some .string => .idxStr (compO G x) (compO G i)
    | some (.array n el) => match sizeO P el, shapeOf P el with
      | some z, some s => .idxArr n z s (compO G x) (compO G i)
      | _, _ => .bad
    | _ => .bad
  | .extract x i => .extract i (compO G x)
  | .makeMap _ none => .mkmap
  | .lookup t m x true => match P.underlying t with
    | some (.map k el) => .lookup (ktag P k) (zeroVV P el) (compO G m) (compO G x)
    | _ => .bad
  | .mapUpdate t m k v => match P.underlying t with
    | some (.map kt _) => .mapset (ktag P kt) (compO G m) (compO G k) (compO G v)
    | _ => .bad
  | .call c => match c.callee with
    | .builtin b => compB P G b c.argTypes c.args
    | .value (.func f) => .call f (c.args.toList.map (compO G))
    | .value (.tmp t) => .callv (.tmp t) (c.args.toList.map (compO G))
    | _ => .bad
  | _ => .bad

def compG (ops : Array Oper) (g : Option (Nat × Bool)) : Option (Option (Nat × Bool)) :=
  match g with
  | none => some none
  | some (j, b) => match (ops[j]?).bind (·.dst) with
    | some t => some (some (t, b))
    | none => none
def dstOk (nt : Nat) : Option Nat → Bool
  | some d => Nat.blt d nt
  | none => true
def compOper (P : Program) (G : Nat → Bool) (nt : Nat) (ops : Array Oper) (o : Oper) : AOper :=
  match compG ops o.guard, dstOk nt o.dst with
  | some g, true => ⟨o.dst, compOp P G o.op, g⟩
  | _, _ => ⟨o.dst, .bad, none⟩

def looksOf (ops : Array Oper) (o : Oper) : List Nat :=
  (o.op.operands.toList.filterMap fun | .tmp t => some t | _ => none) ++
  (match o.guard with
   | some (g, _) => ((ops[g]?).bind (·.dst)).toList
   | none => [])
def planOf (ops : Array Oper) : List DP := (ops.toList.zip (Region.before ops).toList).map fun (o, m) => ⟨m, looksOf ops o⟩

/-- Every index below n. -/
def allN : Nat → (Nat → Bool) → Bool
  | 0, _ => true
  | n + 1, p => p n && allN n p
def ancOf (pl : List DP) (i : Nat) : Nat := (pl.getD i ⟨0, []⟩).anc
def planOk (ops : Array Oper) (l : List AOper) (pl : List DP) : Bool :=
  Nat.beq pl.length ops.size &&
  allN ops.size fun i =>
    match ops[i]?, l[i]?, pl[i]? with
    | some o, some ao, some p =>
      o.after.toList.all (fun e => !Region.binds .any e || Nat.blt e.on i) &&
      allN ops.size fun k =>
        (!p.anc.testBit k || o.after.toList.any (fun e => Region.binds .any e && (Nat.beq e.on k || (ancOf pl e.on).testBit k))) &&
        (Nat.beq i k || match ops[k]?, l[k]?, pl[k]? with
          | some o', some ao', some p' =>
            (match o.dst with
              | none => true
              | some t => (match o'.dst with | some t' => !Nat.beq t t' | none => true) && (!memN p'.looks t || p'.anc.testBit i || p.anc.testBit k)) &&
            (match ao.op.cls, ao'.op.cls with
              | .k, .k => !Nat.blt i k || p'.anc.testBit i
              | _, _ => true)
          | _, _, _ => false)
    | _, _, _ => false

def compC (P : Program) (G : Nat → Bool) (nt : Nat) : Code → AC
  | .skip => .skip
  | .region _ ops false => .region (ops.toList.map (compOper P G nt ops))
  | .region _ ops true => if planOk ops (ops.toList.map (compOper P G nt ops)) (planOf ops) then .draw (ops.toList.map (compOper P G nt ops)) (planOf ops) else .bad
  | .seq a b => .seq (compC P G nt a) (compC P G nt b)
  | .cond c a b => .cond (compO G c) (compC P G nt a) (compC P G nt b)
  | .block id c => .block id (compC P G nt c)
  | .loop c => .loop (compC P G nt c)
  | .exit id => .exit id
  | .ret => .ret
  | _ => .bad

def compR (P : Program) : ResultVar → Option AR
  | .tmp t => some (.tmp t)
  | .cell t ty => match shapeOf P ty with
    | some s => some (.cell t s)
    | none => none
def compRs (P : Program) : List ResultVar → Option (List AR)
  | [] => some []
  | r :: l => match compR P r, compRs P l with
    | some a, some m => some (a :: m)
    | _, _ => none
def compF (P : Program) (G : Nat → Bool) (fn : Func) : Option AFn :=
  match fn.body, compRs P fn.results.toList with
  | some c, some r => some ⟨fn.ntmps, r, [], compC P G fn.ntmps c⟩
  | _, _ => none

/-- Without what is only there for the evaluator. -/
def AC.strip : AC → AC
  | .seq a b => .seq a.strip b.strip
  | .cond c a b => .cond c a.strip b.strip
  | .block id c => .block id c.strip
  | .loop c => .loop c.strip
  | .keep _ c => c.strip
  | c => c
def AFn.strip (f : AFn) : AFn := ⟨f.ntmps, f.results, [], f.body.strip⟩

end Go.Og

namespace Go.Og

structure EnvOk (R : Ren) (e : Env) (tmps : Array Value) : Prop where
  at_ : ∀ (k : Nat) (v : V), look e k = some v → v = .dead ∨ ∃ x, tmps[k]? = some x ∧ conc R v = some x
theorem EnvOk.mono {R R' : Ren} {e : Env} {tmps : Array Value} (h : EnvOk R e tmps) (hle : Le R R') : EnvOk R' e tmps :=
  ⟨fun k v hk => (h.at_ k v hk).imp id fun ⟨x, h1, h2⟩ => ⟨x, h1, conc_mono hle v x h2⟩⟩
theorem EnvOk.get {R : Ren} {e : Env} {tmps : Array Value} (h : EnvOk R e tmps) {t : Nat} {v : V} (hv : getE e t = v) (hl : v.live = true) : ∃ x, tmps[t]? = some x ∧ conc R v = some x := by
  unfold getE at hv
  cases ht : look e t with
  | none => rw [ht] at hv; subst hv; cases hl
  | some u =>
    rw [ht] at hv
    simp only at hv
    subst hv
    rcases h.at_ t _ ht with rfl | h
    · cases hl
    · exact h

/-- What the compiler's operands ask of the variables. -/
def GlobOk (G : Nat → Bool) (R : Ren) : Prop := ∀ g, G g = true → ∃ i, R g = some i ∧ i.blk = g ∧ i.shift = 0

theorem absCell_ok (R : Ren) (x : Value) (h : (absCell x).live = true) : conc R (absCell x) = some x := by
  unfold absCell at h ⊢
  split at h <;> first | rfl | (simp only [conc, BS.toList_ofList]; done) | (cases h; done)
theorem absCells_ok (R : Ren) : ∀ (l : List Value), (l.map absCell).all V.live = true → concs R (l.map absCell) = some l
  | [], _ => rfl
  | x :: l, h => by
    simp only [List.map_cons, List.all_cons, Bool.and_eq_true] at h
    exact concs_cons.2 ⟨x, l, absCell_ok R x h.1, absCells_ok R l h.2, rfl⟩
theorem absV_ok (R : Ren) (x : Value) (h : (absV x).live = true) : conc R (absV x) = some x := by
  cases x with
  | agg cs =>
    simp only [absV] at h ⊢
    by_cases hl : (cs.toList.map absCell).all V.live = true
    · rw [if_pos hl]; rw [conc_agg_mk (absCells_ok R _ hl)]
    · rw [if_neg hl] at h; cases h
  | _ => simp only [absV] at h ⊢; exact absCell_ok R _ h
theorem absZ_ok (R : Ren) {x : Value} {l : List V} (h : absZ x = some l) : concs R l = some x.cells.toList := by
  unfold absZ at h
  split at h
  · cases h; exact absCells_ok R _ ‹_›
  · cases h

section
variable {G : Nat → Bool} {R : Ren} {e : Env} {a : Act}

theorem ev (he : EnvOk R e a.tmps) (hg : GlobOk G R) {o : Operand} {v : V} (h : opv e (compO G o) = v) (hl : v.live = true) : conc R v = some (a.eval o) := by
  subst h
  cases o with
  | tmp t =>
    simp only [compO, opv] at hl ⊢
    obtain ⟨x, hx, hc⟩ := he.get rfl hl
    simp only [hc, Act.eval, Array.getD_eq_getD_getElem?, hx, Option.getD_some]
  | const x => exact absV_ok R x hl
  | global g =>
    simp only [compO] at hl ⊢
    by_cases hG : G g = true
    · rw [if_pos hG]
      obtain ⟨i, hi, hb, hs⟩ := hg g hG
      simp [opv, conc, hi, hb, hs, Act.eval]
    · rw [if_neg hG] at hl; cases hl
  | func f => simp [compO, opv, conc, concs, Act.eval]

theorem ev_ptr (he : EnvOk R e a.tmps) (hg : GlobOk G R) {o : Operand} {b off : Nat} (h : opv e (compO G o) = .ptr b off) :
    ∃ i, R b = some i ∧ a.eval o = .pointer (some ⟨i.blk, i.shift + off, none⟩) := by
  have := ev he hg h rfl
  simp only [conc, Option.map_eq_some_iff] at this
  obtain ⟨i, hi, hx⟩ := this
  exact ⟨i, hi, hx.symm⟩
theorem ev_int (he : EnvOk R e a.tmps) (hg : GlobOk G R) {o : Operand} {k : IntKind} {n : Int} (h : opv e (compO G o) = .int k n) : a.eval o = .int k n := by
  have := ev he hg h rfl
  simp only [conc, Option.some.injEq] at this
  exact this.symm
theorem ev_bool (he : EnvOk R e a.tmps) (hg : GlobOk G R) {o : Operand} {n : Bool} (h : opv e (compO G o) = .bool n) : a.eval o = .bool n := by
  have := ev he hg h rfl
  simp only [conc, Option.some.injEq] at this
  exact this.symm
theorem ev_str (he : EnvOk R e a.tmps) (hg : GlobOk G R) {o : Operand} {l : BS} (h : opv e (compO G o) = .str l) : a.eval o = .string ⟨l.toList.toArray⟩ := by
  have := ev he hg h rfl
  simp only [conc, Option.some.injEq] at this
  exact this.symm
theorem ev_agg (he : EnvOk R e a.tmps) (hg : GlobOk G R) {o : Operand} {l : List V} (h : opv e (compO G o) = .agg l) : ∃ x, concs R l = some x ∧ a.eval o = .agg x.toArray := by
  exact conc_agg (ev he hg h rfl)
theorem ev_tup (he : EnvOk R e a.tmps) (hg : GlobOk G R) {o : Operand} {l : List V} (h : opv e (compO G o) = .tup l) : ∃ x, concs R l = some x ∧ a.eval o = .tuple x.toArray := by
  exact conc_tup (ev he hg h rfl)
theorem evs (he : EnvOk R e a.tmps) (hg : GlobOk G R) : ∀ (l : List Operand), (opvs e (l.map (compO G))).all V.live = true → concs R (opvs e (l.map (compO G))) = some (l.map a.eval)
  | [], _ => rfl
  | o :: l, h => by
    simp only [opvs, List.map_cons, List.all_cons, Bool.and_eq_true] at h
    exact concs_cons.2 ⟨_, _, ev he hg rfl h.1, evs he hg l (by simpa [opvs] using h.2), rfl⟩
end

/-! ### spl -/
theorem spl_length : ∀ (l : List V) (n : Nat) (cs : List V), (spl l n cs).length = l.length
  | l, n, [] => by cases l <;> simp [spl]
  | [], n, c :: cs => by simp [spl]
  | _ :: l, 0, c :: cs => by simp [spl, spl_length l 0 cs]
  | _ :: l, n + 1, c :: cs => by simp [spl, spl_length l n (c :: cs)]
theorem spl_get : ∀ (l : List V) (n : Nat) (cs : List V) (k : Nat), (spl l n cs)[k]? = if n ≤ k ∧ k < n + cs.length then (if k < l.length then cs[k - n]? else none) else l[k]?
  | l, n, [], k => by cases l <;> simp [spl] <;> omega
  | [], n, c :: cs, k => by simp [spl]
  | b :: l, 0, c :: cs, k => by
    cases k with
    | zero => simp [spl]
    | succ k => simp only [spl, List.getElem?_cons_succ, spl_get l 0 cs k, Nat.zero_le, true_and, List.length_cons, Nat.zero_add, Nat.sub_zero, Nat.add_lt_add_iff_right]
  | b :: l, n + 1, c :: cs, k => by
    cases k with
    | zero => simp [spl]
    | succ k =>
      simp only [spl, List.getElem?_cons_succ, spl_get l n (c :: cs) k, List.length_cons, Nat.add_le_add_iff_right, Nat.add_lt_add_iff_right, Nat.add_sub_add_right]
      by_cases h : n ≤ k ∧ k < n + (cs.length + 1)
      · rw [if_pos h, if_pos (show n ≤ k ∧ k + 1 < n + 1 + (cs.length + 1) by omega)]
      · rw [if_neg h, if_neg (show ¬ (n ≤ k ∧ k + 1 < n + 1 + (cs.length + 1)) by omega)]

/-! ### fill -/
theorem foldl_put (off : Nat) : ∀ (vs : List Value) (cs : Array Value) (i : Nat),
    ((vs.zipIdx i).foldl (fun cs (x : Value × Nat) => cs.setIfInBounds (off + x.2) x.1) cs).size = cs.size ∧
    ∀ k, ((vs.zipIdx i).foldl (fun cs (x : Value × Nat) => cs.setIfInBounds (off + x.2) x.1) cs)[k]? =
      if off + i ≤ k ∧ k < off + i + vs.length ∧ k < cs.size then vs[k - (off + i)]? else cs[k]?
  | [], cs, i => by
    refine ⟨rfl, fun k => ?_⟩
    rw [if_neg (by simp; omega)]
    rfl
  | v :: vs, cs, i => by
    obtain ⟨h1, h2⟩ := foldl_put off vs (cs.setIfInBounds (off + i) v) (i + 1)
    simp only [List.zipIdx_cons, List.foldl_cons]
    refine ⟨by rw [h1, Array.size_setIfInBounds], fun k => ?_⟩
    rw [h2, Array.size_setIfInBounds, Array.getElem?_setIfInBounds]
    by_cases hk : off + i = k
    · subst hk
      rw [if_neg (by omega), if_pos rfl]
      by_cases hs : off + i < cs.size
      · rw [if_pos hs, if_pos (by simp; omega)]; simp
      · rw [if_neg hs, if_neg (by omega), Array.getElem?_eq_none (by omega)]
    · rw [if_neg hk]
      by_cases hc : off + (i + 1) ≤ k ∧ k < off + (i + 1) + vs.length ∧ k < cs.size
      · rw [if_pos hc, if_pos (by simp; omega)]
        have : k - (off + i) = (k - (off + (i + 1))) + 1 := by omega
        rw [this, List.getElem?_cons_succ]
      · rw [if_neg hc, if_neg (by simp only [List.length_cons]; omega)]

theorem concs_spl {R : Ren} {z : List V} {arr : Array Value} (hz : concs R z = some arr.toList) {v : V} {x : Value} (hv : conc R v = some x) {off : Nat}
    (hle : off + v.cells.length ≤ z.length) :
    concs R (spl z off v.cells) = some ((x.cells.zipIdx).foldl (fun cs (c, j) => cs.setIfInBounds (off + j) c) arr).toList := by
  have hcs := conc_cells hv
  have hlen := concs_length hcs
  have hzl := concs_length hz
  have hf : (x.cells.zipIdx).foldl (fun cs (c, j) => cs.setIfInBounds (off + j) c) arr = ((x.cells.toList.zipIdx 0).foldl (fun cs (y : Value × Nat) => cs.setIfInBounds (off + y.2) y.1) arr) := by
    rw [← Array.foldl_toList, Array.toList_zipIdx]
  rw [hf]
  obtain ⟨h1, h2⟩ := foldl_put off x.cells.toList arr 0
  refine concs_of_get ?_ ?_
  · rw [spl_length, Array.length_toList, h1]; simpa using hzl
  · intro k u hk
    rw [spl_get] at hk
    rw [Array.getElem?_toList, h2]
    simp only [Nat.add_zero]
    simp only [Array.length_toList] at hlen hzl
    by_cases hc : off ≤ k ∧ k < off + v.cells.length
    · rw [if_pos hc, if_pos (by omega)] at hk
      obtain ⟨b, hb, hx⟩ := concs_get hcs hk
      refine ⟨b, hb, ?_⟩
      rw [if_pos (by simp only [Array.length_toList]; omega)]
      exact hx
    · rw [if_neg hc] at hk
      obtain ⟨b, hb, hx⟩ := concs_get hz hk
      refine ⟨b, hb, ?_⟩
      rw [if_neg (by simp only [Array.length_toList]; omega)]
      simpa using hx

section
variable {G : Nat → Bool} {R : Ren} {e : Env} {a : Act}
theorem fill_ok (he : EnvOk R e a.tmps) (hg : GlobOk G R) {place : Nat → Option (Nat × Nat)} : ∀ (ps : List (Nat × Operand)) (l : List (Nat × Nat × AO)) (z r : List V) (arr : Array Value),
    compParts G place ps = some l → concs R z = some arr.toList → fillA (parts e l) z = some r →
    ∃ out, Instr.fill place arr (ps.map fun (i, x) => (i, a.eval x)) = some out ∧ concs R r = some out.toList ∧ r.length = z.length
  | [], l, z, r, arr, hc, hz, hf => by
    simp only [compParts, Option.some.injEq] at hc; subst hc
    simp only [parts, List.map_nil, fillA, Option.some.injEq] at hf; subst hf
    exact ⟨arr, rfl, hz, rfl⟩
  | (i, x) :: ps, l, z, r, arr, hc, hz, hf => by
    simp only [compParts] at hc
    cases hp : place i with
    | none => rw [hp] at hc; cases hc
    | some os =>
      obtain ⟨off, size⟩ := os
      rw [hp] at hc
      cases hr : compParts G place ps with
      | none => rw [hr] at hc; cases hc
      | some l' =>
        rw [hr] at hc
        simp only [Option.some.injEq] at hc; subst hc
        simp only [parts, List.map_cons, fillA] at hf
        split at hf
        · rename_i hcond
          simp only [Bool.and_eq_true, Nat.beq_eq, Nat.ble_eq] at hcond
          obtain ⟨⟨hl, hs⟩, hb⟩ := hcond
          have hv := ev (a := a) he hg rfl hl
          have hcs := conc_cells hv
          have hlen := concs_length hcs
          have hzl := concs_length hz
          simp only [Array.length_toList] at hlen hzl
          obtain ⟨out, h1, h2, h3⟩ := fill_ok he hg ps l' _ r _ hr (concs_spl hz hv (off := off) (by omega)) hf
          refine ⟨out, ?_, h2, by rw [h3, spl_length]⟩
          simp only [List.map_cons, Instr.fill, hp]
          rw [if_neg (by simp; omega)]
          exact h1
        · cases hf
end
end Go.Og
set_option linter.unusedSimpArgs false
namespace Go.Og
variable {P : Program} {G : Nat → Bool} {R : Ren} {e : Env} {a : Act}

theorem run_sizeO {t : TypeId} {n : Nat} (h : sizeO P t = some n) (w : World) : (sizeOf t).run P w = .ok n w := by
  simp only [sizeO, Option.map_eq_some_iff] at h
  obtain ⟨i, hi, rfl⟩ := h
  simp [sizeOf, typeInfo, hi]
theorem run_zeroO {t : TypeId} {l : List V} (h : zeroO P t = some l) (w : World) : ∃ z, (zeroValue t).run P w = .ok z w ∧ concs R l = some z.cells.toList := by
  unfold zeroO at h
  cases hi : P.info? t with
  | none => rw [hi] at h; cases h
  | some i =>
    rw [hi] at h
    cases hz : i.zero with
    | none => simp only [hz] at h; cases h
    | some z =>
      simp only [hz] at h
      exact ⟨z, by simp [zeroValue, typeInfo, hi, hz], absZ_ok R h⟩
theorem run_isAgg {t : TypeId} {s : Option Nat} (h : shapeOf P t = some s) (w : World) :
    (isAgg t).run P w = .ok s.isSome w ∧ ∀ n, s = some n → (sizeOf t).run P w = .ok n w := by
  unfold shapeOf at h
  cases hu : P.underlying t with
  | none => rw [hu] at h; cases h
  | some d =>
    cases hi : P.info? t with
    | none => rw [hu, hi] at h; cases d <;> cases h
    | some i =>
      rw [hu, hi] at h
      cases d <;> (simp only [Option.some.injEq] at h; subst h; simp [isAgg, run_underlying hu, sizeOf, typeInfo, hi])

theorem places_ok : ∀ {fs : List Field} {pl : List (Nat × Nat)} (w : World), places P fs = some pl →
    (fs.mapM (m := Sem) fun f => do pure (f.offset, ← sizeOf f.type)).run P w = .ok pl w
  | [], pl, w, h => by simp only [places, Option.some.injEq] at h; subst h; rfl
  | f :: fs, pl, w, h => by
    simp only [places] at h
    cases hi : P.info? f.type with
    | none => rw [hi] at h; cases h
    | some i =>
      rw [hi] at h
      cases hr : places P fs with
      | none => rw [hr] at h; cases h
      | some r =>
        rw [hr] at h; simp only [Option.some.injEq] at h; subst h
        have ih := places_ok w hr
        rw [List.mapM_cons]
        simp only [Sem.run_bind, sizeOf, typeInfo, run_program, hi, Result.andThen_ok, Sem.run_pure]
        simp only [sizeOf, typeInfo, Sem.run_bind] at ih
        rw [ih]
        rfl

/-! ### bin -/
theorem run_eqGuard_plain (op : BinOp) (t : TypeId) (x y : Operand) (u v : Value) (w : World)
    (h : ∀ z, (u = .agg z → False)) (h' : u = .nilIface → v = .nilIface → False) : (eqGuard op t x y u v).run P w = .ok () w := by
  cases u with
  | agg z => exact (h z rfl).elim
  | nilIface =>
    cases v with
    | nilIface => exact (h' rfl rfl).elim
    | _ => cases op <;> rfl
  | _ => cases op <;> rfl

theorem intCmp_ok {op : BinOp} {x y : Int} {b : Bool} (h : cmpInt op x y = some b) (w : World) : (Op.intCmp op x y).run P w = .ok (.bool b) w := by
  unfold cmpInt at h
  split at h <;> first | (cases h; rfl) | (cases h)

theorem binV_int {op : BinOp} {t : ETag} {k k' : IntKind} {x y : Int} {v : V} (h : binV op t (.int k x) (.int k' y) = some v) (ty : TypeId) (w : World) :
    ∃ r, conc R v = some r ∧ (binOp op ty (.int k x) (.int k' y)).run P w = .ok r w := by
  cases op
  case shl =>
    simp only [binV, Option.map_eq_some_iff] at h
    obtain ⟨n, hn, rfl⟩ := h
    refine ⟨_, rfl, ?_⟩
    simp only [shiftI] at hn
    split at hn
    · cases hn
    · cases hn
      simp only [binOp, Op.shift]
      rw [if_neg (by omega)]
      rfl
  case shr =>
    simp only [binV, Option.map_eq_some_iff] at h
    obtain ⟨n, hn, rfl⟩ := h
    refine ⟨_, rfl, ?_⟩
    simp only [shiftI] at hn
    split at hn
    · cases hn
    · cases hn
      simp only [binOp, Op.shift]
      rw [if_neg (by omega)]
      rfl
  all_goals
    simp only [binV] at h
    split at h
    · rename_i hk
      subst hk
      simp only [Option.map_eq_some_iff] at h
      obtain ⟨n, hn, rfl⟩ := h
      refine ⟨_, rfl, ?_⟩
      simp only [binOp, ne_eq, not_true_eq_false, if_false]
      first
        | exact intCmp_ok hn w
        | (simp only [arith] at hn
           first
             | (cases hn; rfl)
             | (split at hn
                · cases hn
                · rename_i h0
                  cases hn
                  simp only [Op.intDiv]
                  rw [if_neg h0]
                  rfl))
    · cases h

theorem binV_str {op : BinOp} {t : ETag} {a b : BS} {v : V} (h : binV op t (.str a) (.str b) = some v) (ty : TypeId) (w : World) :
    ∃ r, conc R v = some r ∧ (binOp op ty (.string ⟨a.toList.toArray⟩) (.string ⟨b.toList.toArray⟩)).run P w = .ok r w := by
  have hq : a.beq b = (a.toList == b.toList) := by rw [BS.beq_eq]; by_cases h : a.toList = b.toList <;> simp [h]
  have hca := BS.toList_cat a b
  have hla := BS.length_toList a
  have hlb := BS.length_toList b
  simp only [binV] at h
  cases op <;> simp only [strOp, hq] at h
  all_goals
    generalize hx0 : a.toList = x at *
    generalize hy0 : b.toList = y at *
    have hx : (ByteArray.mk x.toArray).toList = x := by rw [ByteArray.toList_eq]
    have hy : (ByteArray.mk y.toArray).toList = y := by rw [ByteArray.toList_eq]
  case add =>
    split at h
    · rename_i hl
      cases h
      refine ⟨_, rfl, ?_⟩
      rw [hca]
      simp only [Nat.ble_eq, Nat.add_eq] at hl
      have h1 : (ByteArray.mk x.toArray).size = x.length := by simp [ByteArray.size]
      have h2 : (ByteArray.mk y.toArray).size = y.length := by simp [ByteArray.size]
      simp only [binOp, Op.stringOp, h1, h2]
      rw [if_neg (by simp [IntKind.max, IntKind.signed, IntKind.bits]; omega)]
      have h3 : (ByteArray.mk x.toArray) ++ (ByteArray.mk y.toArray) = ⟨(x ++ y).toArray⟩ := by
        apply ByteArray.ext
        simp [ByteArray.data_append]
      rw [h3]
      rfl
    · cases h
  all_goals first
    | (cases h; refine ⟨_, rfl, ?_⟩; simp only [binOp, Op.stringOp, hx, hy]; rfl)
    | cases h


theorem conc_ptr_inv {b off : Nat} {x : Value} (h : conc R (.ptr b off) = some x) : ∃ i, R b = some i ∧ x = .pointer (some ⟨i.blk, i.shift + off, none⟩) := by
  simp only [conc, Option.map_eq_some_iff] at h
  obtain ⟨i, hi, hx⟩ := h
  exact ⟨i, hi, hx.symm⟩
theorem conc_sl_inv {b off n : Nat} {c : Cap} {x : Value} (h : conc R (.sl b off n c) = some x) :
    ∃ i m, R b = some i ∧ x = .slice (some ⟨i.blk, i.shift + off, none⟩) n m ∧ (∀ k, c = .ex k → m = k) ∧ (∀ k, c = .op k → m = i.cap k off ∧ n ≤ m) := by
  cases c with
  | ex k =>
    simp only [conc, Option.map_eq_some_iff] at h
    obtain ⟨i, hi, hx⟩ := h
    exact ⟨i, k, hi, hx.symm, fun _ e => by cases e; rfl, fun _ e => by cases e⟩
  | op k =>
    simp only [conc, Option.bind_eq_some_iff] at h
    obtain ⟨i, hi, hx⟩ := h
    by_cases hc : n ≤ i.cap k off
    · rw [if_pos hc] at hx; cases hx
      exact ⟨i, _, hi, rfl, (fun _ e => by cases e), (fun _ e => by cases e; exact ⟨rfl, hc⟩)⟩
    · rw [if_neg hc] at hx; cases hx
theorem conc_sle_inv {b off k z : Nat} {x : Value} (h : conc R (.sle b off k z) = some x) :
    ∃ i, R b = some i ∧ k ≤ i.cap z off ∧ x = .slice (some (if i.cap z off = k then ⟨i.blk, i.shift + off, none⟩ else (⟨i.blk, i.shift + off, none⟩ : Addr).add (k * z))) 0 (i.cap z off - k) := by
  simp only [conc, Option.bind_eq_some_iff] at h
  obtain ⟨i, hi, hx⟩ := h
  by_cases hc : k ≤ i.cap z off
  · rw [if_pos hc] at hx; cases hx; exact ⟨i, hi, hc, rfl⟩
  · rw [if_neg hc] at hx; cases hx
theorem conc_ifc_inv {t : TypeId} {v : V} {x : Value} (h : conc R (.ifc t v) = some x) : ∃ y, conc R v = some y ∧ x = .iface t y := by
  simp only [conc] at h
  cases hv : conc R v with
  | none => rw [hv] at h; cases h
  | some y => rw [hv] at h; cases h; exact ⟨y, rfl, rfl⟩
theorem conc_mp_inv {b : Nat} {x : Value} (h : conc R (.mp b) = some x) : ∃ i, R b = some i ∧ x = .map (some i.blk) := by
  simp only [conc, Option.map_eq_some_iff] at h
  obtain ⟨i, hi, hx⟩ := h
  exact ⟨i, hi, hx.symm⟩
theorem conc_fn_inv {f : FuncId} {l m : List V} {x : Value} (h : conc R (.fn f l m) = some x) : ∃ y z, concs R l = some y ∧ concs R m = some z ∧ x = .func (.func f) y.toArray z.toArray := by
  simp only [conc] at h
  cases hl : concs R l with
  | none => simp only [hl] at h; cases h
  | some y =>
    cases hm : concs R m with
    | none => simp only [hl, hm] at h; cases h
    | some z => simp only [hl, hm] at h; cases h; exact ⟨y, z, rfl, rfl, rfl⟩

/-- The comparisons that need no more than the type's kind. -/
theorem equal_of {t : TypeId} {u v : Value} {b : Bool} (w : World)
    (h : ∀ n, (Op.equalIn (n + 1) t u v).run P w = .ok b w) : (Op.equal t u v).run P w = .ok b w := h 9999

theorem cellAt_get : ∀ {xs : List V} {o : Nat} {v : V}, cellAt xs o = v → v.live = true → xs[o]? = some v
  | [], _, v, h, hl => by subst h; cases hl
  | a :: l, 0, v, h, _ => by subst h; rfl
  | a :: l, n + 1, v, h, hl => by simpa using cellAt_get (xs := l) (o := n) h hl
def fkOf : TypeDesc → FK → Bool
  | .int _, .int => true
  | .bool, .bool => true
  | .string, .str => true
  | _, _ => false
theorem part_cell {t : TypeId} {d : TypeDesc} {k : FK} (hu : P.underlying t = some d) (hd : fkOf d k = true)
    {xs : List V} {X : List Value} (hX : concs R xs = some X) {o : Nat} {v : V} (hv : cellAt xs o = v) (hl : v.live = true) (w : World) :
    ∃ x, conc R v = some x ∧ (part t X.toArray o).run P w = .ok x w := by
  obtain ⟨x, hx, hg⟩ := concs_get hX (cellAt_get hv hl)
  refine ⟨x, hx, ?_⟩
  have hg' : X.toArray[o]? = some x := by simpa using hg
  have ha : (isAgg t).run P w = .ok false w := by
    cases d <;> first | (cases k <;> cases hd; done) | simp [isAgg, run_underlying hu]
  simp only [part, Sem.run_bind, ha, Result.andThen_ok, Bool.false_eq_true, if_false, hg', Sem.run_pure]
theorem eqCell_ok {t : TypeId} {d : TypeDesc} {k : FK} (hu : P.underlying t = some d) (hk : fkOf d k = true)
    {u v : V} {b : Bool} (h : eqCell k u v = some b) {x y : Value} (hx : conc R u = some x) (hy : conc R v = some y) (n : Nat) (w : World) : (Op.equalIn (n + 1) t x y).run P w = .ok b w := by
  unfold eqCell at h
  split at h <;> (try (cases h; done)) <;> (cases hx; cases hy) <;> (cases d <;> first | (cases hk; done) | skip)
  · split at h
    · rename_i he
      simp only [Option.some.injEq] at h; subst h; subst he
      rw [eqF_eq]; simp [Op.equalIn, run_underlying hu]
    · cases h
  · simp only [Option.some.injEq] at h; subst h
    simp [Op.equalIn, run_underlying hu]
  · simp only [Option.some.injEq] at h; subst h
    rename_i p q
    rw [run_equalIn_string w n t _ _ hu, ByteArray.toList_eq, ByteArray.toList_eq, BS.beq_eq]
    by_cases e : p.toList = q.toList <;> simp [e]
theorem eqCell_live {k : FK} {u v : V} {b : Bool} (h : eqCell k u v = some b) : u.live = true ∧ v.live = true := by
  unfold eqCell at h
  split at h <;> first | exact ⟨rfl, rfl⟩ | cases h
theorem eqFlat_ok {xs ys : List V} {X Y : List Value} (hX : concs R xs = some X) (hY : concs R ys = some Y) (n : Nat) (w : World) : ∀ {fs : List Field} {l : List (Nat × FK)} {b : Bool},
    flatOf P fs = some l → eqFlat l xs ys = some b → (Op.eqFields (n + 1) X.toArray Y.toArray fs).run P w = .ok b w
  | [], l, b, hl, h => by
    simp only [flatOf, Option.some.injEq] at hl; subst hl
    simp only [eqFlat, Option.some.injEq] at h; subst h
    rfl
  | f :: fs, l, b, hl, h => by
    simp only [flatOf] at hl
    by_cases hn : f.name = "_"
    · have hb : (f.name == "_") = true := by simp [hn]
      rw [hb] at hl
      simp only [Op.eqFields]
      rw [if_neg (by simp [hn])]
      exact eqFlat_ok hX hY n w hl h
    · have hb : (f.name == "_") = false := by simp [hn]
      rw [hb] at hl
      cases hr : flatOf P fs with
      | none => rw [hr] at hl; cases hl
      | some r =>
        rw [hr] at hl
        cases hu : P.underlying f.type with
        | none => simp only [hu] at hl; cases hl
        | some d =>
          simp only [hu] at hl
          have hk : ∃ k, l = (f.offset, k) :: r ∧ fkOf d k = true := by
            cases d <;> simp only [Option.some.injEq, reduceCtorEq] at hl <;> subst hl <;> exact ⟨_, rfl, rfl⟩
          obtain ⟨k, rfl, hk⟩ := hk
          simp only [eqFlat] at h
          cases hc : eqCell k (cellAt xs f.offset) (cellAt ys f.offset) with
          | none => simp only [hc] at h; cases h
          | some a =>
            simp only [hc] at h
            cases hf : eqFlat r xs ys with
            | none => simp only [hf] at h; cases h
            | some b' =>
              simp only [hf, Option.some.injEq] at h; subst h
              obtain ⟨hlu, hlv⟩ := eqCell_live hc
              obtain ⟨x, hx, hpx⟩ := part_cell (P := P) hu hk hX rfl hlu w
              obtain ⟨y, hy, hpy⟩ := part_cell (P := P) hu hk hY rfl hlv w
              simp only [Op.eqFields]
              rw [if_pos hn]
              simp only [Sem.run_bind, hpx, hpy, Result.andThen_ok, eqCell_ok hu hk hc hx hy n w]
              cases a
              · simp
              · simpa using eqFlat_ok hX hY n w hr hf
theorem eqFlat_run {op : BinOp} (hop : op = .eql ∨ op = .neq) {t : TypeId} {ox oy : Operand} {fs : Array Field} (hut : P.underlying t = some (.struct fs)) {l : List (Nat × FK)} (htg : etagFlat P t fs.toList = .flat l)
    {xs ys : List V} {b : Bool} (h : eqFlat l xs ys = some b) {u v : Value} (hu : conc R (.agg xs) = some u) (hv : conc R (.agg ys) = some v) (w : World) :
    (do eqGuard op t ox oy u v; binOp op t u v : Sem Value).run P w = .ok (.bool (if op = .eql then b else !b)) w := by
  obtain ⟨X, hX, rfl⟩ := conc_agg hu
  obtain ⟨Y, hY, rfl⟩ := conc_agg hv
  have hfo : P.fieldsOf t = fs := by simp [Program.fieldsOf, hut]
  unfold etagFlat at htg
  cases hs : (P.stoodInHeld t || P.eqGuardType P.depth t) with
  | true => rw [hs] at htg; cases htg
  | false =>
    rw [hs] at htg
    simp only [Bool.or_eq_false_iff] at hs
    cases hfl : flatOf P fs.toList with
    | none => rw [hfl] at htg; cases htg
    | some l' =>
      rw [hfl] at htg
      simp only [ETag.flat.injEq] at htg; subst htg
      have he : (Op.equalIn 10000 t (.agg X.toArray) (.agg Y.toArray)).run P w = .ok b w := by
        rw [run_equalIn_agg w 9999 t _ _ (by rw [hfo]; exact hut) hs.1, hfo]
        exact eqFlat_ok hX hY 9998 w hfl h
      rw [Sem.run_bind, run_eqGuard_agg w op t ox oy _ _ hs.2, Result.andThen_ok]
      rcases hop with rfl | rfl
      · rw [run_eql_struct, he]; rfl
      · rw [run_neq_struct, he]; rfl

theorem etagFlat_cases (t : TypeId) (fs : List Field) : etagFlat P t fs = .none ∨ ∃ l, etagFlat P t fs = .flat l := by
  unfold etagFlat
  split
  · exact .inr ⟨_, rfl⟩
  · exact .inl rfl
set_option maxHeartbeats 2000000 in
theorem eqTag_ok {op : BinOp} (hop : op = .eql ∨ op = .neq) {t : TypeId} {ox oy : Operand} {x y : V} {b : Bool} (h : eqTag (etag P op t ox oy) x y = some b)
    {u v : Value} (hu : conc R x = some u) (hv : conc R y = some v) (w : World) : (do eqGuard op t ox oy u v; binOp op t u v : Sem Value).run P w = .ok (.bool (if op = .eql then b else !b)) w := by
  have htag : etag P op t ox oy = (match P.underlying t with
    | some .bool => .bool
    | some (.struct fs) => etagFlat P t fs.toList
    | some (.pointer _) => .ptr
    | some (.slice _) => .slice
    | some (.map _ _) => .map
    | some (.func _ _ _) => .func
    | some (.interface _) => .iface (isLit ox || isLit oy)
    | _ => .none) := by rcases hop with rfl | rfl <;> rfl
  rw [htag] at h
  clear htag
  generalize htg : (match P.underlying t with
    | some .bool => ETag.bool
    | some (.struct fs) => etagFlat P t fs.toList
    | some (.pointer _) => .ptr
    | some (.slice _) => .slice
    | some (.map _ _) => .map
    | some (.func _ _ _) => .func
    | some (.interface _) => .iface (isLit ox || isLit oy)
    | _ => .none) = tg at h
  have hd : ∃ d, P.underlying t = some d := by
    cases hut : P.underlying t with
    | none => rw [hut] at htg; subst htg; cases h
    | some d => exact ⟨d, rfl⟩
  obtain ⟨d, hut⟩ := hd
  rw [hut] at htg
  have hfin : (eqGuard op t ox oy u v).run P w = .ok () w → (Op.equal t u v).run P w = .ok b w →
      binOp .eql t u v = (do pure (.bool (← Op.equal t u v))) → binOp .neq t u v = (do pure (.bool (!(← Op.equal t u v)))) →
      (do eqGuard op t ox oy u v; binOp op t u v : Sem Value).run P w = .ok (.bool (if op = .eql then b else !b)) w := fun h1 h2 h3 h4 => by
    rcases hop with rfl | rfl
    · rw [Sem.run_bind, h1, Result.andThen_ok, h3, Sem.run_bind, h2]; rfl
    · rw [Sem.run_bind, h1, Result.andThen_ok, h4, Sem.run_bind, h2]; rfl
  have hplain : ∀ (hn : ∀ z, u = .agg z → False) (hm : u = .nilIface → v = .nilIface → False) (hb : ∀ n, (Op.equalIn (n + 1) t u v).run P w = .ok b w),
      binOp .eql t u v = (do pure (.bool (← Op.equal t u v))) → binOp .neq t u v = (do pure (.bool (!(← Op.equal t u v)))) →
      (do eqGuard op t ox oy u v; binOp op t u v : Sem Value).run P w = .ok (.bool (if op = .eql then b else !b)) w := fun hn hm hb h3 h4 =>
    hfin (run_eqGuard_plain op t ox oy u v w hn hm) (equal_of w hb) h3 h4
  by_cases hst : ∃ fs, d = .struct fs
  · obtain ⟨fs, rfl⟩ := hst
    simp only at htg
    rcases etagFlat_cases (P := P) t fs.toList with h0 | ⟨l, h0⟩
    · rw [h0] at htg; subst htg; cases h
    · rw [h0] at htg; subst htg
      cases x <;> cases y <;> first
        | (exact eqFlat_run hop hut h0 h hu hv w)
        | cases h
  unfold eqTag at h
  split at h <;> (try (cases h; done)) <;> (try (simp only [Option.some.injEq] at h; subst h))
  all_goals (cases d <;> first | exact (hst ⟨_, rfl⟩).elim | simp only [reduceCtorEq] at htg)
  -- bool
  · cases hu; cases hv
    exact hplain (fun _ e => by cases e) (fun e => by cases e) (fun n => by simp [Op.equalIn, run_underlying hut]) rfl rfl
  -- ptr
  · cases hu; cases hv
    exact hplain (fun _ e => by cases e) (fun e => by cases e) (fun n => by simp [Op.equalIn, run_underlying hut]) rfl rfl
  · cases hu; obtain ⟨i, _, rfl⟩ := conc_ptr_inv hv
    exact hplain (fun _ e => by cases e) (fun e => by cases e) (fun n => by simp [Op.equalIn, run_underlying hut]) rfl rfl
  · cases hv; obtain ⟨i, _, rfl⟩ := conc_ptr_inv hu
    exact hplain (fun _ e => by cases e) (fun e => by cases e) (fun n => by simp [Op.equalIn, run_underlying hut]) rfl rfl
  -- slice
  · cases hu; cases hv
    exact hplain (fun _ e => by cases e) (fun e => by cases e) (fun n => by simp [Op.equalIn, run_underlying hut]) rfl rfl
  · cases hu; obtain ⟨i, m, _, rfl, _⟩ := conc_sl_inv hv
    exact hplain (fun _ e => by cases e) (fun e => by cases e) (fun n => by simp [Op.equalIn, run_underlying hut]) rfl rfl
  · cases hv; obtain ⟨i, m, _, rfl, _⟩ := conc_sl_inv hu
    exact hplain (fun _ e => by cases e) (fun e => by cases e) (fun n => by simp [Op.equalIn, run_underlying hut]) rfl rfl
  · cases hu; obtain ⟨i, _, _, rfl⟩ := conc_sle_inv hv
    exact hplain (fun _ e => by cases e) (fun e => by cases e) (fun n => by simp [Op.equalIn, run_underlying hut]) rfl rfl
  · cases hv; obtain ⟨i, _, _, rfl⟩ := conc_sle_inv hu
    exact hplain (fun _ e => by cases e) (fun e => by cases e) (fun n => by simp [Op.equalIn, run_underlying hut]) rfl rfl
  -- map
  · cases hu; cases hv
    exact hplain (fun _ e => by cases e) (fun e => by cases e) (fun n => by simp [Op.equalIn, run_underlying hut]) rfl rfl
  · cases hu; obtain ⟨i, _, rfl⟩ := conc_mp_inv hv
    exact hplain (fun _ e => by cases e) (fun e => by cases e) (fun n => by simp [Op.equalIn, run_underlying hut]) rfl rfl
  · cases hv; obtain ⟨i, _, rfl⟩ := conc_mp_inv hu
    exact hplain (fun _ e => by cases e) (fun e => by cases e) (fun n => by simp [Op.equalIn, run_underlying hut]) rfl rfl
  -- func
  · cases hu; cases hv
    exact hplain (fun _ e => by cases e) (fun e => by cases e) (fun n => by simp [Op.equalIn, run_underlying hut]) rfl rfl
  · cases hu; obtain ⟨y, z, _, _, rfl⟩ := conc_fn_inv hv
    exact hplain (fun _ e => by cases e) (fun e => by cases e) (fun n => by simp [Op.equalIn, run_underlying hut]) rfl rfl
  · cases hv; obtain ⟨y, z, _, _, rfl⟩ := conc_fn_inv hu
    exact hplain (fun _ e => by cases e) (fun e => by cases e) (fun n => by simp [Op.equalIn, run_underlying hut]) rfl rfl
  -- iface
  · cases hu; cases hv
    refine hfin ?_ (equal_of w (fun n => by simp [Op.equalIn, run_underlying hut])) rfl rfl
    have hl : (isLit ox || isLit oy) = true := by simpa using htg
    rcases hop with rfl | rfl <;> cases ox <;> cases oy <;> first | rfl | (exfalso; simp [isLit] at hl)
  · cases hu; obtain ⟨y, _, rfl⟩ := conc_ifc_inv hv
    exact hplain (fun _ e => by cases e) (fun _ e => by cases e) (fun n => by simp [Op.equalIn, run_underlying hut]) rfl rfl
  · cases hv; obtain ⟨y, _, rfl⟩ := conc_ifc_inv hu
    exact hplain (fun _ e => by cases e) (fun e => by cases e) (fun n => by simp [Op.equalIn, run_underlying hut]) rfl rfl

theorem binV_eq {t : TypeId} {ox oy : Operand} {x y : V} {v : V} {op : BinOp} (hi : ∀ k n k' m, x = .int k n → y = .int k' m → False) (hs : ∀ l m, x = .str l → y = .str m → False)
    (h : binV op (etag P op t ox oy) x y = some v) : (op = .eql ∨ op = .neq) ∧ ∃ b, eqTag (etag P op t ox oy) x y = some b ∧ v = .bool (if op = .eql then b else !b) := by
  unfold binV at h
  split at h
  · exact (hi _ _ _ _ rfl rfl).elim
  · exact (hs _ _ rfl rfl).elim
  · cases op <;> simp only [Option.map_eq_some_iff] at h <;> first
      | (obtain ⟨b, hb, rfl⟩ := h; exact ⟨.inl rfl, b, hb, by simp⟩)
      | (obtain ⟨b, hb, rfl⟩ := h; exact ⟨.inr rfl, b, hb, by simp⟩)
      | cases h

theorem eqTag_live {tg : ETag} {x y : V} {b : Bool} (h : eqTag tg x y = some b) : x.live = true ∧ y.live = true := by
  unfold eqTag at h
  split at h <;> first | exact ⟨rfl, rfl⟩ | cases h

theorem binV_ok {o : BinOp} {t : TypeId} {ox oy : Operand} {v : V} (he : EnvOk R e a.tmps) (hg : GlobOk G R)
    (h : binV o (etag P o t ox oy) (opv e (compO G ox)) (opv e (compO G oy)) = some v) (w : World) :
    ∃ x, conc R v = some x ∧ (do eqGuard o t ox oy (a.eval ox) (a.eval oy); binOp o t (a.eval ox) (a.eval oy) : Sem Value).run P w = .ok x w := by
  by_cases hi : ∃ k n k' m, opv e (compO G ox) = .int k n ∧ opv e (compO G oy) = .int k' m
  · obtain ⟨k, n, k', m, hx, hy⟩ := hi
    rw [hx, hy] at h
    rw [ev_int he hg hx, ev_int he hg hy]
    obtain ⟨r, hr, hrun⟩ := binV_int (R := R) (P := P) h t w
    exact ⟨r, hr, by rw [Sem.run_bind, run_eqGuard_plain _ _ _ _ _ _ _ (fun _ e => by cases e) (fun e => by cases e)]; exact hrun⟩
  · by_cases hs : ∃ l m, opv e (compO G ox) = .str l ∧ opv e (compO G oy) = .str m
    · obtain ⟨l, m, hx, hy⟩ := hs
      rw [hx, hy] at h
      rw [ev_str he hg hx, ev_str he hg hy]
      obtain ⟨r, hr, hrun⟩ := binV_str (R := R) (P := P) h t w
      exact ⟨r, hr, by rw [Sem.run_bind, run_eqGuard_plain _ _ _ _ _ _ _ (fun _ e => by cases e) (fun e => by cases e)]; exact hrun⟩
    · obtain ⟨hop, b, hb, rfl⟩ := binV_eq (fun k n k' m hx hy => hi ⟨k, n, k', m, hx, hy⟩) (fun l m hx hy => hs ⟨l, m, hx, hy⟩) h
      obtain ⟨hlx, hly⟩ := eqTag_live hb
      have hu := ev (a := a) he hg rfl hlx
      have hv := ev (a := a) he hg rfl hly
      exact ⟨_, rfl, eqTag_ok hop hb hu hv w⟩
end Go.Og

set_option linter.unusedSimpArgs false
namespace Go.Og
variable {P : Program} {G : Nat → Bool} {R : Ren} {e : Env} {a : Act}

theorem beq_false {m l : Nat} (h : ¬ m = l) : Nat.beq m l = false := Bool.eq_false_iff.2 (by rw [ne_eq, Nat.beq_eq]; exact h)
theorem bnd_some (x : V) (d d' : Nat) : bnd (some x) d = bnd (some x) d' := by cases x <;> rfl

/-- What an optional operand is. -/
theorem bnd_ok (he : EnvOk R e a.tmps) (hg : GlobOk G R) {o : Option Operand} {d n : Nat} (h : bnd (opvo e (o.map (compO G))) d = some n) (y : Nat) (hy : n ≤ y) (code : BoundsCode) (w : World) :
    (o = none ∧ n = d) ∨ ∃ x, o = some x ∧ (Instr.sliceBound (a.eval x) y code).run P w = .ok n w := by
  cases o with
  | none => simp only [Option.map_none, opvo, bnd, Option.some.injEq] at h; exact .inl ⟨rfl, h.symm⟩
  | some x =>
    right
    refine ⟨x, rfl, ?_⟩
    simp only [Option.map_some, opvo] at h
    unfold bnd at h
    split at h
    · rename_i heq; cases heq
    · rename_i k m heq
      simp only [Option.some.injEq] at heq
      split at h
      · rename_i h0
        simp only [Option.some.injEq] at h
        subst h
        rw [ev_int he hg heq]
        exact run_sliceBound w k m y code h0 (by omega)
      · cases h
    · cases h

theorem bounds_ok (he : EnvOk R e a.tmps) (hg : GlobOk G R) {lo hi mx : Option Operand} {len cap l h m : Nat} (isSlice : Bool)
    (hm : bnd (opvo e (mx.map (compO G))) cap = some m) (hh : bnd (opvo e (hi.map (compO G))) len = some h) (hl : bnd (opvo e (lo.map (compO G))) 0 = some l)
    (h1 : l ≤ h) (h2 : h ≤ m) (h3 : m ≤ cap) (hmx : mx.isSome = true → hi.isSome = true) (w : World) :
    (Instr.sliceBounds isSlice len cap (lo.map a.eval) (hi.map a.eval) (mx.map a.eval)).run P w = .ok (l, h, m) w := by
  unfold Instr.sliceBounds
  rcases bnd_ok (P := P) he hg hm cap h3 (if isSlice then .slice3Acap else .slice3Alen) w with ⟨rfl, rfl⟩ | ⟨x, rfl, hx⟩
  · rcases bnd_ok (P := P) he hg hh m h2 (if isSlice then .sliceAcap else .sliceAlen) w with ⟨rfl, rfl⟩ | ⟨y, rfl, hy⟩
    · rcases bnd_ok (P := P) he hg hl h h1 .sliceB w with ⟨rfl, rfl⟩ | ⟨z, rfl, hz⟩
      · rfl
      · simp [hz]
    · rcases bnd_ok (P := P) he hg hl h h1 .sliceB w with ⟨rfl, rfl⟩ | ⟨z, rfl, hz⟩
      · simp [hy]
      · simp [hy, hz]
  · rcases bnd_ok (P := P) he hg hh m h2 .slice3B w with ⟨rfl, rfl⟩ | ⟨y, rfl, hy⟩
    · simp at hmx
    · rcases bnd_ok (P := P) he hg hl h h1 .slice3C w with ⟨rfl, rfl⟩ | ⟨z, rfl, hz⟩
      · simp [hx, hy]
      · simp [hx, hy, hz]

theorem add_eq (b o n : Nat) : (⟨b, o, none⟩ : Addr).add n = ⟨b, o + n, none⟩ := by
  unfold Addr.add
  split
  · rename_i h; subst h; rfl
  · rfl

theorem cap_sub {i : BI} {z off l : Nat} : i.cap z (off + l * z) = i.cap z off - l := by
  unfold BI.cap
  rw [← Nat.sub_sub, Nat.mul_comm l z]
  by_cases h : z * l ≤ i.endc - off
  · exact Nat.sub_mul_div_of_le (i.endc - off) z l h
  · have hz : i.endc - off < z * l := by omega
    rw [Nat.sub_eq_zero_of_le (by omega), Nat.zero_div]
    have := Nat.div_le_of_le_mul (m := i.endc - off) (n := l) (k := z) (by omega)
    omega

theorem sliceV_ok (he : EnvOk R e a.tmps) (hg : GlobOk G R) {t el : TypeId} {esz : Nat} (hu : P.underlying t = some (.slice el)) (hs : sizeO P el = some esz)
    {x : Operand} {lo hi mx : Option Operand} (hmx : mx.isSome = true → hi.isSome = true) {v : V}
    (h : sliceV esz (opv e (compO G x)) (opvo e (lo.map (compO G))) (opvo e (hi.map (compO G))) (opvo e (mx.map (compO G))) = some v) (w : World) :
    ∃ r, conc R v = some r ∧ (Instr.sliceAt t (a.eval x) (lo.map a.eval) (hi.map a.eval) (mx.map a.eval)).run P w = .ok r w := by
  have hat : ∀ u, (Instr.sliceAt t u (lo.map a.eval) (hi.map a.eval) (mx.map a.eval)).run P w = (Instr.slice t u (lo.map a.eval) (hi.map a.eval) (mx.map a.eval)).run P w := fun u => by
    unfold Instr.sliceAt; simp [run_underlying hu]
  rw [hat]
  have hsl : ∀ (b : Option Addr) (len cap l hh m : Nat), (Instr.sliceBounds true len cap (lo.map a.eval) (hi.map a.eval) (mx.map a.eval)).run P w = .ok (l, hh, m) w →
      (Instr.slice t (.slice b len cap) (lo.map a.eval) (hi.map a.eval) (mx.map a.eval)).run P w = .ok (.slice (if m = l then b else b.map (·.add (l * esz))) (hh - l) (m - l)) w := fun b len cap l hh m hb => by
    unfold Instr.slice; simp [run_underlying hu, hb, run_sizeO hs w]
  cases hx : opv e (compO G x) with
  | nils =>
    rw [hx] at h
    have hc := ev (a := a) he hg hx rfl
    simp only [conc, Option.some.injEq] at hc
    rw [← hc]
    simp only [sliceV] at h
    cases hm : bnd (opvo e (mx.map (compO G))) 0 <;> simp only [hm] at h
    · cases h
    rename_i m
    cases hh : bnd (opvo e (hi.map (compO G))) 0 <;> simp only [hh] at h
    · cases h
    rename_i h'
    cases hl : bnd (opvo e (lo.map (compO G))) 0 <;> simp only [hl] at h
    · cases h
    rename_i l
    split at h
    · rename_i hcond
      simp only [Bool.and_eq_true, Nat.ble_eq, Nat.beq_eq] at hcond
      obtain ⟨⟨h1, h2⟩, h3⟩ := hcond
      cases h
      refine ⟨_, rfl, ?_⟩
      rw [hsl none 0 0 l h' m (bounds_ok he hg true hm hh hl h1 h2 (by omega) hmx w)]
      have : m = 0 := h3
      have : h' = 0 := by omega
      have : l = 0 := by omega
      subst_vars; rfl
    · cases h
  | sl b off len c =>
    rw [hx] at h
    have hc := ev (a := a) he hg hx rfl
    obtain ⟨i, cap, hi', hev, hex, hop⟩ := conc_sl_inv hc
    rw [hev]
    cases c with
    | ex c =>
      obtain rfl := hex c rfl
      simp only [sliceV] at h
      cases hm : bnd (opvo e (mx.map (compO G))) cap <;> simp only [hm] at h
      · cases h
      rename_i m
      cases hh : bnd (opvo e (hi.map (compO G))) len <;> simp only [hh] at h
      · cases h
      rename_i h'
      cases hl : bnd (opvo e (lo.map (compO G))) 0 <;> simp only [hl] at h
      · cases h
      rename_i l
      split at h
      · rename_i hcond
        simp only [Bool.and_eq_true, Nat.ble_eq, Nat.beq_eq] at hcond
        obtain ⟨⟨h1, h2⟩, h3⟩ := hcond
        have h3 : m ≤ cap := by
          rw [Bool.or_eq_true] at h3
          rcases h3 with h3 | h3
          · cases hq : opvo e (mx.map (compO G)) with
            | none => rw [hq] at hm; cases hm; exact Nat.le_refl _
            | some q => rw [hq] at h3; cases h3
          · exact Nat.le_of_ble_eq_true h3
        cases h
        refine ⟨_, ?_, hsl _ len cap l h' m (bounds_ok he hg true hm hh hl h1 h2 h3 hmx w)⟩
        simp only [conc, hi', Option.map_some]
        by_cases hml : m = l
        · simp [hml]
        · have : Nat.beq m l = false := beq_false hml
          simp [hml, this, add_eq, Nat.add_assoc]
      · cases h
    | op z =>
      obtain ⟨hcap, hlen⟩ := hop z rfl
      simp only [sliceV] at h
      cases hh : bnd (opvo e (hi.map (compO G))) len
      · rw [hh] at h; cases h
      rename_i h'
      cases hl : bnd (opvo e (lo.map (compO G))) 0
      · rw [hh, hl] at h; cases h
      rename_i l
      rw [hh, hl] at h
      simp only at h
      cases hmo : mx with
      | none =>
        subst hmo
        simp only [Option.map_none, opvo] at h
        split at h
        · rename_i hcond
          simp only [Bool.and_eq_true, Nat.ble_eq, Nat.beq_eq] at hcond
          obtain ⟨⟨h1, h2⟩, h3⟩ := hcond
          subst h3
          have hb := bounds_ok (a := a) (P := P) (cap := cap) (mx := none) he hg true (by simp [opvo, bnd]) hh hl h1 (Nat.le_trans h2 hlen) (Nat.le_refl _) hmx w
          refine ⟨_, ?_, hsl _ len cap l h' cap hb⟩
          split at h
          · rename_i hll
            simp only [Nat.beq_eq] at hll
            have hhl : h' = l := by omega
            subst hhl
            split at h
            · rename_i hl0
              simp only [Nat.beq_eq] at hl0
              cases h
              subst hl0
              simp only [conc, hi', Option.bind_some, ← hcap, hlen, if_true, Nat.sub_zero, Nat.zero_mul, Option.map_some, add_eq, Nat.add_zero, ite_self, ← hll, Nat.zero_le]
            · cases h
              simp only [conc, hi', Option.bind_some, ← hcap, Nat.sub_self, Option.map_some, if_pos (show h' ≤ cap by omega)]
              by_cases hcl : cap = h' <;> simp [hcl]
          · rename_i hll
            simp only [Nat.beq_eq] at hll
            cases h
            have hne : cap ≠ l := by omega
            simp only [conc, hi', Option.bind_some, cap_sub, ← hcap, if_neg hne, Option.map_some, add_eq, Nat.add_assoc, if_pos (show h' - l ≤ cap - l by omega)]
        · cases h
      | some mo =>
        subst hmo
        cases hm : bnd (opvo e ((some mo).map (compO G))) 0 <;> simp only [Option.map_some, opvo] at h hm <;> simp only [hm] at h
        · cases h
        rename_i m
        split at h
        · rename_i hcond
          simp only [Bool.and_eq_true, Nat.ble_eq, Nat.beq_eq] at hcond
          obtain ⟨⟨h1, h2⟩, h3⟩ := hcond
          cases h
          have hm' : bnd (opvo e ((some mo).map (compO G))) cap = some m := by
            simp only [Option.map_some, opvo]
            rw [bnd_some _ cap 0]; exact hm
          refine ⟨_, ?_, hsl _ len cap l h' m (bounds_ok he hg true hm' hh hl h1 h2 (by omega) hmx w)⟩
          simp only [conc, hi', Option.map_some]
          by_cases hml : m = l
          · simp [hml]
          · have : Nat.beq m l = false := beq_false hml
            simp [hml, this, add_eq, Nat.add_assoc]
        · cases h
  | sle b off k z =>
    rw [hx] at h
    have hc := ev (a := a) he hg hx rfl
    obtain ⟨i, hi', hk, hev⟩ := conc_sle_inv hc
    simp only [sliceV] at h
    cases hh : bnd (opvo e (hi.map (compO G))) 0
    · rw [hh] at h; cases h
    rename_i h'
    cases hl : bnd (opvo e (lo.map (compO G))) 0
    · rw [hh, hl] at h; cases h
    rename_i l
    rw [hh, hl] at h
    cases hmo : mx with
    | some mo => subst hmo; simp only [Option.map_some, opvo] at h; cases h
    | none =>
      subst hmo
      simp only [Option.map_none, opvo] at h
      split at h
      · rename_i hcond
        simp only [Bool.and_eq_true, Nat.beq_eq] at hcond
        obtain ⟨rfl, rfl⟩ := hcond
        cases h
        refine ⟨_, hc, ?_⟩
        rw [hev]
        have hb := bounds_ok (a := a) (P := P) (len := 0) (cap := i.cap z off - k) (m := i.cap z off - k) (mx := none) he hg true (by simp [opvo, bnd]) hh hl (Nat.le_refl 0) (Nat.zero_le _) (Nat.le_refl _) hmx w
        rw [hsl _ 0 _ 0 0 _ hb]
        simp only [Nat.zero_mul, Nat.sub_zero, Option.map_some]
        split <;> split <;> simp [Addr.add]
      · cases h
  | _ => rw [hx] at h; simp only [sliceV] at h; cases h

end Go.Og

set_option linter.unusedSimpArgs false
namespace Go.Og
variable {P : Program} {G : Nat → Bool} {R : Ren} {e : Env} {a : Act}

theorem sliceArrV_ok (he : EnvOk R e a.tmps) (hg : GlobOk G R) {t el : TypeId} {n esz : Nat} (hu : P.underlying t = some (.array n el)) (hs : sizeO P el = some esz)
    {x : Operand} {lo hi mx : Option Operand} (hmx : mx.isSome = true → hi.isSome = true) {v : V}
    (h : sliceArrV n esz (opv e (compO G x)) (opvo e (lo.map (compO G))) (opvo e (hi.map (compO G))) (opvo e (mx.map (compO G))) = some v) (w : World) :
    ∃ r, conc R v = some r ∧ (Instr.sliceAt t (a.eval x) (lo.map a.eval) (hi.map a.eval) (mx.map a.eval)).run P w = .ok r w := by
  cases hx : opv e (compO G x) with
  | ptr b off =>
    rw [hx] at h
    obtain ⟨i, hi', hev⟩ := ev_ptr (a := a) he hg hx
    simp only [sliceArrV] at h
    cases hm : bnd (opvo e (mx.map (compO G))) n
    · rw [hm] at h; cases h
    rename_i m
    cases hh : bnd (opvo e (hi.map (compO G))) n
    · rw [hm, hh] at h; cases h
    rename_i h'
    cases hl : bnd (opvo e (lo.map (compO G))) 0
    · rw [hm, hh, hl] at h; cases h
    rename_i l
    rw [hm, hh, hl] at h
    simp only at h
    split at h
    · rename_i hcond
      simp only [Bool.and_eq_true, Nat.ble_eq, Nat.beq_eq] at hcond
      obtain ⟨⟨h1, h2⟩, h3⟩ := hcond
      cases h
      have hb := bounds_ok (P := P) (a := a) he hg false hm hh hl h1 h2 h3 hmx w
      refine ⟨.slice (some (if m = l then ⟨i.blk, i.shift + off, none⟩ else (⟨i.blk, i.shift + off, none⟩ : Addr).add (l * esz))) (h' - l) (m - l), ?_, ?_⟩
      · simp only [conc, hi', Option.map_some]
        by_cases hml : m = l
        · simp [hml]
        · have : Nat.beq m l = false := beq_false hml
          simp [hml, this, add_eq, Nat.add_assoc]
      · rw [hev]
        unfold Instr.sliceAt
        simp [run_underlying hu, Instr.sureAddr, hb, run_sizeO hs w]
    · cases h
  | _ => rw [hx] at h; simp only [sliceArrV] at h; cases h

theorem sliceStrV_ok (he : EnvOk R e a.tmps) (hg : GlobOk G R) {t : TypeId} (hu : P.underlying t = some .string)
    {x : Operand} {lo hi : Option Operand} {v : V}
    (h : sliceStrV (opv e (compO G x)) (opvo e (lo.map (compO G))) (opvo e (hi.map (compO G))) = some v) (w : World) :
    ∃ r, conc R v = some r ∧ (Instr.sliceAt t (a.eval x) (lo.map a.eval) (hi.map a.eval) none).run P w = .ok r w := by
  cases hx : opv e (compO G x) with
  | str s =>
    rw [hx] at h
    have hev := ev_str (a := a) he hg hx
    simp only [sliceStrV] at h
    cases hh : bnd (opvo e (hi.map (compO G))) s.len
    · rw [hh] at h; cases h
    rename_i h'
    cases hl : bnd (opvo e (lo.map (compO G))) 0
    · rw [hh, hl] at h; cases h
    rename_i l
    rw [hh, hl] at h
    simp only at h
    split at h
    · rename_i hcond
      simp only [Bool.and_eq_true, Nat.ble_eq, Nat.beq_eq] at hcond
      obtain ⟨h1, h2⟩ := hcond
      cases h
      have hsz : (ByteArray.mk s.toList.toArray).size = s.len := by simp [ByteArray.size, BS.length_toList]
      have hb := bounds_ok (P := P) (a := a) (mx := none) (cap := s.len) (m := s.len) he hg false (by simp [opvo, bnd]) hh hl h1 h2 (Nat.le_refl _) (fun e => by cases e) w
      refine ⟨_, rfl, ?_⟩
      rw [hev]
      unfold Instr.sliceAt Instr.slice
      simp only [Option.map_none] at hb
      simp only [Sem.run_bind, run_underlying hu, Result.andThen_ok, Option.isSome_none, Bool.false_eq_true, if_false, hsz, hb, Sem.run_pure]
      congr 2
      rw [BS.toList_sub h2]
      apply ByteArray.ext
      rw [ByteArray.data_extract]
      apply Array.ext'
      simp [List.drop_take]
    · cases h
  | _ => rw [hx] at h; simp only [sliceStrV] at h; cases h

theorem conc_ptr_mk {b off : Nat} {i : BI} (h : R b = some i) : conc R (.ptr b off) = some (.pointer (some ⟨i.blk, i.shift + off, none⟩)) := by simp only [conc, h, Option.map_some]
theorem conc_fn_mk {f : FuncId} {l m : List V} {y z : List Value} (h : concs R l = some y) (k : concs R m = some z) : conc R (.fn f l m) = some (.func (.func f) y.toArray z.toArray) := by simp only [conc, h, k]

theorem minI_ok : ∀ (l : List Operand) (x : V) (u : Value) {k : IntKind} {n : Int} (_ : EnvOk R e a.tmps) (_ : GlobOk G R) (_ : conc R x = some u) (_ : ∃ k n, x = .int k n)
    (_ : minI x (opvs e (l.map (compO G))) = some (.int k n)) (w : World), ((l.map a.eval).foldlM (m := Sem) Builtin.min2 u).run P w = .ok (.int k n) w
  | [], x, u, k, n, _, _, hu, _, h, w => by
    simp only [opvs, List.map_nil, minI, Option.some.injEq] at h
    subst h; cases hu; rfl
  | o :: l, x, u, k, n, he, hg, hu, ⟨k1, n1, hx⟩, h, w => by
    subst hx
    simp only [opvs, List.map_cons] at h
    unfold minI at h
    split at h
    · rename_i heq; cases heq
    · rename_i heq1 heq
      cases heq1
      rename_i k2 n2 l2 _
      simp only [List.cons.injEq] at heq
      obtain ⟨ho, hl⟩ := heq
      split at h
      · rename_i hk
        subst hk
        subst hl
        cases hu
        rw [List.map_cons, List.foldlM_cons, ev_int he hg ho]
        simp only [Builtin.min2, Sem.run_bind, Sem.run_pure, Result.andThen_ok]
        exact minI_ok l _ _ he hg rfl ⟨_, _, rfl⟩ h w
      · cases h
    · cases h
theorem maxI_ok : ∀ (l : List Operand) (x : V) (u : Value) {k : IntKind} {n : Int} (_ : EnvOk R e a.tmps) (_ : GlobOk G R) (_ : conc R x = some u) (_ : ∃ k n, x = .int k n)
    (_ : maxI x (opvs e (l.map (compO G))) = some (.int k n)) (w : World), ((l.map a.eval).foldlM (m := Sem) Builtin.max2 u).run P w = .ok (.int k n) w
  | [], x, u, k, n, _, _, hu, _, h, w => by
    simp only [opvs, List.map_nil, maxI, Option.some.injEq] at h
    subst h; cases hu; rfl
  | o :: l, x, u, k, n, he, hg, hu, ⟨k1, n1, hx⟩, h, w => by
    subst hx
    simp only [opvs, List.map_cons] at h
    unfold maxI at h
    split at h
    · rename_i heq; cases heq
    · rename_i heq1 heq
      cases heq1
      rename_i k2 n2 l2 _
      simp only [List.cons.injEq] at heq
      obtain ⟨ho, hl⟩ := heq
      split at h
      · rename_i hk
        subst hk
        subst hl
        cases hu
        rw [List.map_cons, List.foldlM_cons, ev_int he hg ho]
        simp only [Builtin.max2, Sem.run_bind, Sem.run_pure, Result.andThen_ok]
        exact maxI_ok l _ _ he hg rfl ⟨_, _, rfl⟩ h w
      · cases h
    · cases h

theorem part_ok {t : TypeId} {s : Option Nat} (hs : shapeOf P t = some s) {l : List V} {x : List Value} (hx : concs R l = some x) {off : Nat} {v : V}
    (h : fieldV l off s = some v) (w : World) :
    ∃ r, conc R v = some r ∧ (part t x.toArray off).run P w = .ok r w := by
  obtain ⟨h1, h2⟩ := run_isAgg (P := P) hs w
  cases s with
  | none =>
    obtain ⟨r, hr, hk⟩ := concs_get hx h
    refine ⟨r, hr, ?_⟩
    unfold part
    simp [h1, hk]
  | some n =>
    simp only [fieldV] at h
    split at h
    · cases h
      refine ⟨_, conc_agg_mk (concs_take (concs_drop hx off) n), ?_⟩
      unfold part
      simp only [Sem.run_bind, h1, Result.andThen_ok, Option.isSome_some, if_true, h2 n rfl, Sem.run_pure]
      congr 2
      apply Array.ext'
      simp [List.drop_take]
    · cases h

theorem compB_ok (he : EnvOk R e a.tmps) (hg : GlobOk G R) (b : Builtin) (ts : Array TypeId) (ty : TypeId) (lits : Array Bool) (args : Array Operand) {v : V}
    (h : aopP (compB P G b ts args) e = some v) (w : World) : ∃ x, conc R v = some x ∧ (builtin b ts ty lits (args.map a.eval)).run P w = .ok (.value x) w := by
  have val : ∀ {s : Sem Value} {x : Value}, s.run P w = .ok x w → (do pure (Next.value (← s)) : Sem Next).run P w = .ok (.value x) w := fun hs => by simp [hs]
  obtain ⟨ts⟩ := ts
  obtain ⟨args⟩ := args
  unfold compB at h
  split at h
  · -- len
    rename_i t x hts has
    simp only at hts has
    subst hts has
    split at h
    · rename_i hu
      simp only [aopP] at h
      split at h
      · rename_i s hx; cases h
        refine ⟨_, rfl, ?_⟩
        simp only [builtin]
        have hsz : (ByteArray.mk s.toList.toArray).size = s.len := by simp [ByteArray.size, BS.length_toList]
        exact val (by rw [show Array.map a.eval ⟨[x]⟩ = #[a.eval x] from by simp]; rw [ev_str (a := a) he hg hx]; unfold Builtin.len_; simp [run_underlying hu, goInt, hsz])
      · cases h
    · rename_i el hu
      simp only [aopP] at h
      split at h
      · rename_i hx; cases h
        have hc := ev (a := a) he hg hx rfl
        simp only [conc, Option.some.injEq] at hc
        refine ⟨_, rfl, ?_⟩
        simp only [builtin]
        exact val (by rw [show Array.map a.eval ⟨[x]⟩ = #[a.eval x] from by simp]; rw [← hc]; unfold Builtin.len_; simp [run_underlying hu, goInt])
      · rename_i b off n c hx; cases h
        obtain ⟨i, m, _, hev, _⟩ := conc_sl_inv (ev (a := a) he hg hx rfl)
        refine ⟨_, rfl, ?_⟩
        simp only [builtin]
        exact val (by unfold Builtin.len_; simp [run_underlying hu, hev, goInt])
      · rename_i b off n c hx; cases h
        obtain ⟨i, _, _, hev⟩ := conc_sle_inv (ev (a := a) he hg hx rfl)
        refine ⟨_, rfl, ?_⟩
        simp only [builtin]
        exact val (by unfold Builtin.len_; simp [run_underlying hu, hev, goInt])
      · cases h
    · rename_i n el hu
      simp only [aopP, Option.some.injEq] at h
      subst h
      refine ⟨_, rfl, ?_⟩
      simp only [builtin]
      exact val (by unfold Builtin.len_; simp [run_underlying hu, goInt])
    · rename_i el hu
      split at h
      · rename_i n el' hu'
        simp only [aopP, Option.some.injEq] at h
        subst h
        refine ⟨_, rfl, ?_⟩
        simp only [builtin]
        exact val (by unfold Builtin.len_; simp [run_underlying hu, run_underlying hu', goInt])
      · cases h
    · cases h
  · -- cap
    rename_i t x hts has
    simp only at hts has
    subst hts has
    split at h
    · rename_i el hu
      simp only [aopP] at h
      split at h
      · rename_i hx; cases h
        have hc := ev (a := a) he hg hx rfl
        simp only [conc, Option.some.injEq] at hc
        refine ⟨_, rfl, ?_⟩
        simp only [builtin]
        exact val (by rw [show Array.map a.eval ⟨[x]⟩ = #[a.eval x] from by simp]; rw [← hc]; unfold Builtin.cap_; simp [run_underlying hu, goInt])
      · rename_i b off n c hx; cases h
        obtain ⟨i, m, _, hev, hex, _⟩ := conc_sl_inv (ev (a := a) he hg hx rfl)
        obtain rfl := hex _ rfl
        refine ⟨_, rfl, ?_⟩
        simp only [builtin]
        exact val (by unfold Builtin.cap_; simp [run_underlying hu, hev, goInt])
      · cases h
    · cases h
  · -- append
    split at h
    · split at h
      · split at h
        · have hno : ∀ (q : Bool) (e1 : TypeId) (n m : Nat) (x y : AO), aopP (if q = true then AOp.bad else AOp.append e1 n m x y) e ≠ some v := by
            intro q e1 n m x y; cases q <;> simp [aopP]
          exact (hno _ _ _ _ _ _ h).elim
        · cases h
      · cases h
    · cases h
  · -- copy
    split at h
    · split at h
      · simp only [aopP] at h; cases h
      · cases h
    · cases h
  · -- min
    rename_i x l has
    simp only at has
    subst has
    simp only [aopP] at h
    split at h
    · rename_i k n hm; cases h
      refine ⟨_, rfl, ?_⟩
      simp only [builtin]
      refine val ?_
      have hx : ∃ k n, opv e (compO G x) = .int k n := by
        cases l with
        | nil => simp only [opvs, List.map_nil, minI, Option.some.injEq] at hm; exact ⟨k, n, hm⟩
        | cons y l =>
          simp only [opvs, List.map_cons] at hm
          unfold minI at hm
          split at hm
          · rename_i heq; cases heq
          · rename_i heq _; exact ⟨_, _, heq⟩
          · cases hm
      obtain ⟨k1, n1, hx1⟩ := hx
      have := minI_ok (P := P) l _ _ he hg (ev (a := a) he hg hx1 rfl) ⟨k1, n1, rfl⟩ (hx1 ▸ hm) w
      simpa [Builtin.min_] using this
    · cases h
  · -- max
    rename_i x l has
    simp only at has
    subst has
    simp only [aopP] at h
    split at h
    · rename_i k n hm; cases h
      refine ⟨_, rfl, ?_⟩
      simp only [builtin]
      refine val ?_
      have hx : ∃ k n, opv e (compO G x) = .int k n := by
        cases l with
        | nil => simp only [opvs, List.map_nil, maxI, Option.some.injEq] at hm; exact ⟨k, n, hm⟩
        | cons y l =>
          simp only [opvs, List.map_cons] at hm
          unfold maxI at hm
          split at hm
          · rename_i heq; cases heq
          · rename_i heq _; exact ⟨_, _, heq⟩
          · cases hm
      obtain ⟨k1, n1, hx1⟩ := hx
      have := maxI_ok (P := P) l _ _ he hg (ev (a := a) he hg hx1 rfl) ⟨k1, n1, rfl⟩ (hx1 ▸ hm) w
      simpa [Builtin.max_] using this
    · cases h
  · cases h

/-- The great table of the operations that hang on their operands alone. -/
theorem aopP_ok (he : EnvOk R e a.tmps) (hg : GlobOk G R) (o : Oper) {v : V} (h : aopP (compOp P G o.op) e = some v) (w : World) :
    ∃ x, conc R v = some x ∧ (execOp a.eval o).run P w = .ok (.value x) w := by
  have val : ∀ {s : Sem Value} {x : Value}, s.run P w = .ok x w → (do pure (Next.value (← s)) : Sem Next).run P w = .ok (.value x) w := fun hs => by simp [hs]
  obtain ⟨dst, op, ty, pos, after, guard⟩ := o
  simp only at h
  cases op with
  | move x =>
    simp only [compOp, aopP] at h
    split at h
    · rename_i hl; cases h
      exact ⟨_, ev he hg rfl hl, rfl⟩
    · cases h
  | assign x =>
    simp only [compOp, aopP] at h
    split at h
    · rename_i hl; cases h
      exact ⟨_, ev he hg rfl hl, rfl⟩
    · cases h
  | pick c x y =>
    simp only [compOp, aopP] at h
    split at h
    · rename_i hc
      split at h
      · rename_i hl; cases h
        exact ⟨_, ev he hg rfl hl, by simp [execOp, ev_bool (a := a) he hg hc, asBool]⟩
      · cases h
    · rename_i hc
      split at h
      · rename_i hl; cases h
        exact ⟨_, ev he hg rfl hl, by simp [execOp, ev_bool (a := a) he hg hc, asBool]⟩
      · cases h
    · cases h
  | build t ps =>
    simp only [compOp] at h
    have hmap : ∀ (q : Array (Nat × Operand)), (q.map (fun (x : Nat × Operand) => (x.1, a.eval x.2))).toList = q.toList.map (fun (x : Nat × Operand) => (x.1, a.eval x.2)) := fun q => Array.toList_map
    split at h
    · rename_i fs z hu hz
      cases hp : places P fs.toList with
      | none => rw [hp] at h; cases h
      | some pl =>
        rw [hp] at h
        simp only at h
        cases hc : compParts G (pl[·]?) ps.toList with
        | none => rw [hc] at h; cases h
        | some l =>
          rw [hc] at h
          simp only [aopP] at h
          cases hf : fillA (parts e l) z with
          | none => rw [hf] at h; cases h
          | some r =>
            rw [hf] at h; cases h
            obtain ⟨zv, hzr, hzc⟩ := run_zeroO (P := P) (R := R) hz w
            obtain ⟨out, h1, h2, _⟩ := fill_ok (a := a) he hg ps.toList l z r zv.cells hc hzc hf
            refine ⟨_, conc_agg_mk h2, val ?_⟩
            unfold Instr.build
            simp only [Sem.run_bind, hzr, Result.andThen_ok, run_underlying hu, Array.mapM_eq_mapM_toList, Sem.run_map, places_ok w hp, Sem.run_pure, hmap]
            have : (fun (x : Nat) => (pl.toArray)[x]?) = (fun x => pl[x]?) := by funext x; simp
            simp only [this, h1, Sem.run_pure, Array.toArray_toList]
    · rename_i n el z hu hz
      cases hp : sizeO P el with
      | none => rw [hp] at h; cases h
      | some s =>
        rw [hp] at h
        simp only at h
        cases hc : compParts G (fun i => some (i * s, s)) ps.toList with
        | none => rw [hc] at h; cases h
        | some l =>
          rw [hc] at h
          simp only [aopP] at h
          cases hf : fillA (parts e l) z with
          | none => rw [hf] at h; cases h
          | some r =>
            rw [hf] at h; cases h
            obtain ⟨zv, hzr, hzc⟩ := run_zeroO (P := P) (R := R) hz w
            obtain ⟨out, h1, h2, _⟩ := fill_ok (a := a) he hg ps.toList l z r zv.cells hc hzc hf
            refine ⟨_, conc_agg_mk h2, val ?_⟩
            unfold Instr.build
            simp only [Sem.run_bind, hzr, Result.andThen_ok, run_underlying hu, run_sizeO hp w, hmap, h1, Sem.run_pure, Array.toArray_toList]
    · cases h
  | nilCheck x =>
    simp only [compOp, aopP] at h
    split at h
    · rename_i b off hx
      cases h
      obtain ⟨i, hi, hev⟩ := ev_ptr (a := a) he hg hx
      refine ⟨_, conc_ptr_mk hi, ?_⟩
      simp [execOp, hev]
    · cases h
  | binOp op t x y t' =>
    simp only [compOp, aopP] at h
    obtain ⟨r, hr, hrun⟩ := binV_ok (a := a) (P := P) he hg h w
    exact ⟨r, hr, val hrun⟩
  | unOp op t x =>
    simp only [compOp, aopP] at h
    unfold unV at h
    split at h
    · rename_i k n hx; cases h
      refine ⟨_, rfl, val ?_⟩
      rw [ev_int he hg hx]; rfl
    · rename_i k n hx; cases h
      refine ⟨_, rfl, val ?_⟩
      rw [ev_int he hg hx]; rfl
    · rename_i b hx; cases h
      refine ⟨_, rfl, val ?_⟩
      rw [ev_bool he hg hx]; rfl
    · cases h
  | convert s d x =>
    simp only [compOp] at h
    unfold ctag at h
    split at h
    · rename_i ds k hs hd
      simp only [aopP] at h
      split at h
      · rename_i k' n hx; cases h
        refine ⟨_, rfl, val ?_⟩
        rw [ev_int he hg hx]
        simp [convert, run_underlying hs, run_underlying hd, Conv.intToInt]
      · cases h
    · rename_i hs hd
      simp only [aopP] at h
      split at h
      · rename_i l hx; cases h
        refine ⟨_, rfl, val ?_⟩
        rw [ev_str he hg hx]
        simp [convert, run_underlying hs, run_underlying hd]
      · cases h
    · split at h <;> (simp only [aopP] at h; cases h)
    · split at h <;> (simp only [aopP] at h; cases h)
    · simp only [aopP] at h; cases h
  | makeInterface t x =>
    simp only [compOp] at h
    split at h
    · cases h
    · rename_i d hni hu
      simp only [aopP] at h
      split at h
      · rename_i hl; cases h
        have hc := ev (a := a) he hg rfl hl
        refine ⟨.iface t (a.eval x), by simp only [conc, hc], val ?_⟩
        unfold Instr.makeInterface
        rw [Sem.run_bind, run_underlying hu, Result.andThen_ok]
        split
        · rename_i m; exact (hni m rfl).elim
        · rfl
      · cases h
    · cases h
  | makeFunc fn f c =>
    cases fn with
    | func f' =>
      simp only [compOp, aopP] at h
      split at h
      · rename_i hl
        simp only [Bool.and_eq_true] at hl
        cases h
        have h1 := evs (a := a) he hg f.toList hl.1
        have h2 := evs (a := a) he hg c.toList hl.2
        refine ⟨_, conc_fn_mk h1 h2, val ?_⟩
        have e1 : ∀ q : Array Operand, Array.map a.eval q = (List.map a.eval q.toList).toArray := fun q => by apply Array.ext'; simp
        simp [Instr.makeFunc, e1]
      · cases h
    | _ => simp only [compOp, aopP] at h; cases h
  | slice t x lo hi mx =>
    simp only [compOp] at h
    split at h
    · cases h
    · rename_i hmx
      have hmx' : mx.isSome = true → hi.isSome = true := by
        intro hm; cases hh : hi.isSome <;> simp_all
      split at h
      · rename_i hu
        split at h
        · obtain ⟨r, hr, hrun⟩ := sliceStrV_ok (a := a) (P := P) he hg hu h w
          exact ⟨r, hr, val hrun⟩
        · cases h
      · rename_i el hu
        cases hs : sizeO P el with
        | none => rw [hs] at h; cases h
        | some s =>
          rw [hs] at h
          obtain ⟨r, hr, hrun⟩ := sliceV_ok (a := a) (P := P) he hg hu hs hmx' h w
          exact ⟨r, hr, val hrun⟩
      · rename_i n el hu
        cases hs : sizeO P el with
        | none => rw [hs] at h; cases h
        | some s =>
          rw [hs] at h
          obtain ⟨r, hr, hrun⟩ := sliceArrV_ok (a := a) (P := P) he hg hu hs hmx' h w
          exact ⟨r, hr, val hrun⟩
      · cases h
  | fieldAddr s x f =>
    simp only [compOp] at h
    split at h
    · rename_i fs hu
      split at h
      · rename_i fd hf
        split at h
        · split at h <;> (simp only [aopP] at h; cases h)
        · rename_i n hn hs
          simp only [aopP] at h
          split at h
          · rename_i b off hx; cases h
            obtain ⟨i, hi, hev⟩ := ev_ptr (a := a) he hg hx
            refine ⟨_, conc_ptr_mk hi, val ?_⟩
            unfold Instr.fieldAt fieldPlace
            have hn' : n ≠ 0 := fun e => hn (e ▸ rfl)
            simp [run_underlying hu, hf, Instr.sureAddr, hev, run_sizeO hs w, hn', add_eq, Nat.add_assoc]
          · cases h
        · cases h
      · cases h
    · cases h
  | field s x f =>
    simp only [compOp] at h
    split at h
    · rename_i fs hu
      split at h
      · rename_i fd hf
        split at h
        · rename_i n hs
          cases hx : opv e (compO G x) with
          | agg l =>
            obtain ⟨y, hy, hev⟩ := ev_agg (a := a) he hg hx
            have h' : fieldV l fd.offset n = some v := by
              cases n <;> simpa only [aopP, hx, fieldV] using h
            obtain ⟨r, hr, hrun⟩ := part_ok hs hy h' w
            refine ⟨r, hr, val ?_⟩
            unfold Instr.field
            simp [run_underlying hu, hf, asAgg, hev, hrun]
          | _ => cases n <;> (simp only [aopP, hx] at h; cases h)
        · cases h
      · cases h
    · cases h
  | indexAddr t x i =>
    simp only [compOp] at h
    split at h
    · rename_i el hu
      split at h
      · rename_i s hs
        simp only [aopP] at h
        split at h
        · rename_i b off len c k n hx hi
          split at h
          · rename_i hb; cases h
            have hc := ev (a := a) he hg hx rfl
            obtain ⟨j, m, hj, hev, _⟩ := conc_sl_inv hc
            refine ⟨_, conc_ptr_mk hj, val ?_⟩
            unfold Instr.indexAt
            simp [asIntOf, ev_int (a := a) he hg hi, run_underlying hu, hev, hb, run_sizeO hs w, add_eq, Nat.add_assoc]
          · cases h
        · cases h
      · cases h
    · rename_i len el hu
      split at h
      · rename_i s hs
        simp only [aopP] at h
        split at h
        · rename_i b off k n hx hi
          split at h
          · rename_i hb; cases h
            obtain ⟨j, hj, hev⟩ := ev_ptr (a := a) he hg hx
            refine ⟨_, conc_ptr_mk hj, val ?_⟩
            unfold Instr.indexAt
            simp [asIntOf, ev_int (a := a) he hg hi, run_underlying hu, hev, Instr.sureAddr, hb, run_sizeO hs w, add_eq, Nat.add_assoc]
          · cases h
        · cases h
      · cases h
    · cases h
  | index t x i =>
    simp only [compOp] at h
    split at h
    · rename_i hu
      simp only [aopP] at h
      split at h
      · rename_i s k n hx hi
        split at h
        · rename_i h0
          split at h
          · rename_i hc; cases h
            simp only [Nat.blt_eq] at hc
            refine ⟨_, rfl, val ?_⟩
            unfold Instr.index
            have hb : (ByteArray.mk s.toList.toArray)[n.toNat]? = some (UInt8.ofNat (s.get n.toNat)) := by
              have hlt : n.toNat < s.toList.length := by rw [BS.length_toList]; exact hc
              have hsz : (ByteArray.mk s.toList.toArray).size = s.toList.length := by simp [ByteArray.size]
              have hcc := BS.getElem?_toList s n.toNat
              rw [if_pos hc] at hcc
              rw [getElem?_pos (ByteArray.mk s.toList.toArray) n.toNat (by omega)]
              rw [List.getElem?_eq_getElem hlt] at hcc
              simp only [Option.some.injEq] at hcc ⊢
              rw [← hcc]
              rfl
            have hgl : s.get n.toNat % 256 = s.get n.toNat := Nat.mod_eq_of_lt (s.get_lt _)
            simp [asIntOf, ev_int (a := a) he hg hi, run_underlying hu, ev_str (a := a) he hg hx, h0, hb, hgl]
          · cases h
        · cases h
      · cases h
    · rename_i n el hu
      split at h
      · rename_i z s hz hs
        simp only [aopP] at h
        split at h
        · rename_i l k m hx hi
          split at h
          · rename_i hc
            obtain ⟨y, hy, hev⟩ := ev_agg (a := a) he hg hx
            obtain ⟨r, hr, hrun⟩ := part_ok hs hy h w
            refine ⟨r, hr, val ?_⟩
            unfold Instr.index
            simp [asIntOf, ev_int (a := a) he hg hi, run_underlying hu, hev, hc, run_sizeO hz w, hrun]
          · cases h
        · cases h
      · simp only [aopP] at h; cases h
    · simp only [aopP] at h; cases h
  | extract x i =>
    simp only [compOp, aopP] at h
    split at h
    · rename_i l hx
      obtain ⟨y, hy, hev⟩ := ev_tup (a := a) he hg hx
      obtain ⟨r, hr, hk⟩ := concs_get hy h
      refine ⟨r, hr, val ?_⟩
      unfold Instr.extract
      rw [hev]
      simp [hk]
    · cases h
  | call c =>
    obtain ⟨callee, args, argTypes⟩ := c
    cases callee with
    | value f => cases f <;> (simp only [compOp, aopP] at h; cases h)
    | invoke r m => simp only [compOp, aopP] at h; cases h
    | builtin b =>
      simp only [compOp] at h
      obtain ⟨r, hr, hrun⟩ := compB_ok (a := a) (P := P) he hg b argTypes ty (args.map fun | .const _ => true | _ => false) args h w
      refine ⟨r, hr, ?_⟩
      simp only [execOp, resolve, Sem.run_bind, Sem.run_pure, Result.andThen_ok, invoke]
      exact hrun
  | buildSlice t n ps => simp only [compOp] at h; (repeat' split at h) <;> (simp only [aopP] at h; cases h)
  | makeSlice t l c => simp only [compOp] at h; (repeat' split at h) <;> (simp only [aopP] at h; cases h)
  | alloc t => simp only [compOp] at h; (repeat' split at h) <;> (simp only [aopP] at h; cases h)
  | load t x =>
    simp only [compOp] at h
    split at h
    · rename_i hs
      simp only [aopP] at h
      split at h
      · rename_i b off hx
        simp only [Option.some.injEq] at h; subst h
        obtain ⟨i, hi, hev⟩ := ev_ptr (a := a) he hg hx
        obtain ⟨h1, h2⟩ := run_isAgg (P := P) hs w
        refine ⟨_, conc_agg_mk (x := []) rfl, val ?_⟩
        unfold Instr.loadAt loadVar
        have h0 : ∀ b : Addr, (loadCells b 0).run P w = .ok #[] w := fun b => rfl
        simp [Instr.sureAddr, hev, h1, h2 0 rfl, h0]
      · cases h
    · simp only [aopP] at h; cases h
    · simp only [aopP] at h; cases h
  | store t x y => simp only [compOp] at h; (repeat' split at h) <;> (simp only [aopP] at h; cases h)
  | box t x => simp only [compOp] at h; (repeat' split at h) <;> (simp only [aopP] at h; cases h)
  | makeMap t r => cases r <;> (simp only [compOp, aopP] at h; cases h)
  | lookup t x y ok => cases ok <;> simp only [compOp] at h <;> first | (simp only [aopP] at h; cases h; done) | ((repeat' split at h) <;> (simp only [aopP] at h; cases h))
  | mapUpdate t x y z => simp only [compOp] at h; (repeat' split at h) <;> (simp only [aopP] at h; cases h)
  | _ => simp only [compOp, aopP] at h; cases h
end Go.Og

set_option linter.unusedSimpArgs false
namespace Go.Og
variable {P : Program} {G : Nat → Bool} {R : Ren} {e : Env} {a : Act} {C : Cx} {σ : H} {w : World}

theorem Rel.globOk (h : Rel C R σ w) : GlobOk C.G R := h.glob

theorem cell_at {b k : Nat} {arr : Array Value} {el : TypeId} {fr : Nat × Nat} (h : w.heap[b]? = some (.cells arr el fr)) : w.cell? ⟨b, k, none⟩ = arr[k]? := by
  simp [World.cell?, h]

/-- The cells of a block, from a place on. -/
theorem Holds.cells {l : List V} {s off n : Nat} {arr : Array Value} (h : Holds R s l arr) (hn : off + n ≤ l.length) :
    ∃ xs, concs R ((l.drop off).take n) = some xs ∧ (∀ x ∈ xs, x.oneCell' = true) ∧ ∀ j v, xs[j]? = some v → arr[s + off + j]? = some v := by
  induction n generalizing off with
  | zero => exact ⟨[], by simp [concs], by simp, by simp⟩
  | succ n ih =>
    obtain ⟨xs, h1, h2, h3⟩ := ih (off := off + 1) (by omega)
    have hlt : off < l.length := by omega
    obtain ⟨x, hx, hone, hax⟩ := h off l[off] (List.getElem?_eq_getElem hlt)
    refine ⟨x :: xs, ?_, ?_, ?_⟩
    · rw [List.drop_eq_getElem_cons hlt, List.take_succ_cons]
      exact concs_cons.2 ⟨x, xs, hx, h1, rfl⟩
    · intro y hy
      rcases List.mem_cons.1 hy with rfl | hy
      · exact hone
      · exact h2 y hy
    · intro j v hj
      cases j with
      | zero => simp at hj; subst hj; simpa using hax
      | succ j => simp at hj; have := h3 j v hj; rw [show s + off + (j + 1) = s + (off + 1) + j by omega]; exact this

theorem Rel.readN (h : Rel C R σ w) {id off n : Nat} {l : List V} (hl : rdN C.E σ id off n = some l) :
    ∃ i xs, R id = some i ∧ concs R l = some xs ∧ (∀ x ∈ xs, x.oneCell' = true) ∧ xs.length = n ∧ l.length = n ∧ ∀ j v, xs[j]? = some v → w.cell? ((⟨i.blk, i.shift + off, none⟩ : Addr).add j) = some v := by
  unfold rdN at hl
  cases hr : rd C.E σ id with
  | none => rw [hr] at hl; cases hl
  | some m =>
    rw [hr] at hl
    simp only at hl
    split at hl
    · rename_i hb
      simp only [Nat.ble_eq] at hb
      cases hl
      obtain ⟨i, arr, el, fr, hi, hblk, hold⟩ := h.read hr
      obtain ⟨xs, h1, h2, h3⟩ := hold.cells hb
      have hlen : ((m.drop off).take n).length = n := by simp; omega
      refine ⟨i, xs, hi, h1, h2, by rw [concs_length h1, hlen], hlen, fun j v hj => ?_⟩
      rw [add_eq, cell_at hblk]
      exact h3 j v hj
    · cases hl

theorem bytesOf_ok : ∀ {l : List V} {s : List UInt8} {xs : List Value}, bytesOf l = some s → concs R l = some xs →
    ∃ ns : List Int, xs = ns.map (Value.int .u8) ∧ s = ns.map fun n => UInt8.ofNat n.toNat
  | [], s, xs, h, hc => by
    simp only [bytesOf, Option.some.injEq] at h; subst h
    simp only [concs, Option.some.injEq] at hc; subst hc
    exact ⟨[], rfl, rfl⟩
  | v :: l, s, xs, h, hc => by
    unfold bytesOf at h
    split at h
    · rename_i heq; cases heq
    · rename_i n l' heq
      cases heq
      simp only [Option.map_eq_some_iff] at h
      obtain ⟨r, hr, rfl⟩ := h
      obtain ⟨x, ys, hx, hy, rfl⟩ := concs_cons.1 hc
      cases hx
      obtain ⟨ns, h1, h2⟩ := bytesOf_ok hr hy
      exact ⟨n :: ns, by rw [h1]; rfl, by rw [h2]; rfl⟩
    · cases h

/-! ### maps -/
theorem ktag_flat {t : TypeId} {l : List (Nat × FK)} (h : ktag P t = .flat l) : ∃ fs : Array Field, P.underlying t = some (.struct fs) ∧ P.stoodInHeld t = false ∧ flatOf P fs.toList = some l := by
  unfold ktag at h
  split at h
  · rename_i fs hu
    refine ⟨fs, hu, ?_⟩
    unfold etagFlat at h
    cases hs : (P.stoodInHeld t || P.eqGuardType P.depth t) with
    | true => rw [hs] at h; cases h
    | false =>
      rw [hs] at h
      simp only [Bool.or_eq_false_iff] at hs
      cases hf : flatOf P fs.toList with
      | none => rw [hf] at h; cases h
      | some l' =>
        rw [hf] at h
        simp only [ETag.flat.injEq] at h; subst h
        exact ⟨hs.1, rfl⟩
  · cases h
theorem eqM_cases {tg : ETag} {x y : V} {b : Bool} (h : eqM tg x y = some b) : ∃ l xs ys, tg = .flat l ∧ x = .agg xs ∧ y = .agg ys ∧ eqFlat l xs ys = some b := by
  unfold eqM at h
  split at h
  · exact ⟨_, _, _, rfl, rfl, rfl, h⟩
  · cases h
theorem eqM_ok {t : TypeId} {x y : V} {b : Bool} (h : eqM (ktag P t) x y = some b) {u v : Value} (hu : conc R x = some u) (hv : conc R y = some v) (w : World) :
    (Op.equal t u v).run P w = .ok b w := by
  obtain ⟨l, xs, ys, htg, rfl, rfl, he⟩ := eqM_cases h
  obtain ⟨fs, hut, hs, hfl⟩ := ktag_flat htg
  obtain ⟨X, hX, rfl⟩ := conc_agg hu
  obtain ⟨Y, hY, rfl⟩ := conc_agg hv
  have hfo : P.fieldsOf t = fs := by simp [Program.fieldsOf, hut]
  show (Op.equalIn 10000 t (.agg X.toArray) (.agg Y.toArray)).run P w = .ok b w
  rw [run_equalIn_agg w 9999 t _ _ (by rw [hfo]; exact hut) hs, hfo]
  exact eqFlat_ok hX hY 9998 w hfl he
theorem fk_check {t : TypeId} {d : TypeDesc} {k : FK} (hu : P.underlying t = some d) (hd : fkOf d k = true) (em : Bool) (n : Nat) (x : Value) (w : World) :
    (Instr.checkKey em (n + 1) t x).run P w = .ok () w := by
  unfold Instr.checkKey
  simp only [Sem.run_bind, run_underlying hu, Result.andThen_ok]
  cases d <;> first | (cases k <;> cases hd; done) | simp
theorem fields_ok {xs ys : List V} {X Y : List Value} (hX : concs R xs = some X) (hY : concs R ys = some Y) : ∀ {fs : List Field} {l : List (Nat × FK)} {b : Bool},
    flatOf P fs = some l → eqFlat l xs ys = some b → ∀ (em : Bool) (w : World), ∀ f ∈ fs, f.name ≠ "_" → ∃ y, (part f.type X.toArray f.offset).run P w = .ok y w ∧ (Instr.checkKey em 9999 f.type y).run P w = .ok () w
  | [], l, b, hl, h, em, w, f, hf, _ => by cases hf
  | g :: fs, l, b, hl, h, em, w, f, hf, hn => by
    simp only [flatOf] at hl
    by_cases hg : g.name = "_"
    · have hb : (g.name == "_") = true := by simp [hg]
      rw [hb] at hl
      rcases List.mem_cons.1 hf with rfl | hf
      · exact absurd hg hn
      · exact fields_ok hX hY hl h em w f hf hn
    · have hb : (g.name == "_") = false := by simp [hg]
      rw [hb] at hl
      cases hr : flatOf P fs with
      | none => rw [hr] at hl; cases hl
      | some r =>
        rw [hr] at hl
        cases hu : P.underlying g.type with
        | none => simp only [hu] at hl; cases hl
        | some d =>
          simp only [hu] at hl
          have hk : ∃ k, l = (g.offset, k) :: r ∧ fkOf d k = true := by
            cases d <;> simp only [Option.some.injEq, reduceCtorEq] at hl <;> subst hl <;> exact ⟨_, rfl, rfl⟩
          obtain ⟨k, rfl, hk⟩ := hk
          simp only [eqFlat] at h
          cases hc : eqCell k (cellAt xs g.offset) (cellAt ys g.offset) with
          | none => simp only [hc] at h; cases h
          | some a =>
            simp only [hc] at h
            cases hf' : eqFlat r xs ys with
            | none => simp only [hf'] at h; cases h
            | some b' =>
              obtain ⟨hlu, hlv⟩ := eqCell_live hc
              rcases List.mem_cons.1 hf with rfl | hf
              · obtain ⟨x, hx, hpx⟩ := part_cell (P := P) hu hk hX rfl hlu w
                exact ⟨x, hpx, fk_check hu hk em 9998 x w⟩
              · exact fields_ok hX hY hr hf' em w f hf hn
theorem checkKey_ok {t : TypeId} {x : V} (h : keyOk (ktag P t) x = true) {u : Value} (hu : conc R x = some u) (em : Bool) (w : World) :
    (Instr.checkKey em 10000 t u).run P w = .ok () w := by
  unfold keyOk at h
  split at h
  · rename_i b hb
    obtain ⟨l, xs, ys, htg, rfl, hy, he⟩ := eqM_cases hb
    cases hy
    obtain ⟨fs, hut, hs, hfl⟩ := ktag_flat htg
    obtain ⟨X, hX, rfl⟩ := conc_agg hu
    have hut' := hut
    clear htg hb h hut hs hu
    have key : (Instr.checkKey em (9999 + 1) t (.agg X.toArray)).run P w = .ok () w := by
      unfold Instr.checkKey
      simp only [Sem.run_bind, run_underlying hut', Result.andThen_ok]
      rw [← Array.forIn_toList]
      have hall : ∀ f ∈ fs.toList, f.name ≠ "_" → ∃ y, (part f.type X.toArray f.offset).run P w = .ok y w ∧ (Instr.checkKey em 9999 f.type y).run P w = .ok () w := fields_ok hX hX hfl he em w
      generalize fs.toList = L at hall
      induction L with
      | nil => simp
      | cons f L ih =>
        have ih := ih (fun y hy => hall y (by simp [hy]))
        by_cases hn : f.name = "_"
        · simp only [List.forIn_cons, Sem.run_bind, hn, ne_eq, not_true_eq_false, if_false, Result.andThen_ok, Sem.run_pure]
          exact ih
        · obtain ⟨y, p1, p2⟩ := hall f (by simp) hn
          simp only [List.forIn_cons, Sem.run_bind, hn, ne_eq, not_false_eq_true, if_true, Result.andThen_ok, p1, p2, Sem.run_pure]
          exact ih
    exact key
  · cases h
theorem findM_ok {t : TypeId} {fs : Array Field} (hut : P.underlying t = some (.struct fs)) {k : V} {u : Value} (hu : conc R k = some u) (w : World) : ∀ {l : List (V × V)} {es : List MapEntry} {r : Option V} (i : Nat),
    findM (ktag P t) k l = some r → MapHolds R l es →
    (match r with
      | none => (Instr.findAsking t u es i).run P w = .ok none w
      | some v => ∃ j x, conc R v = some x ∧ (Instr.findAsking t u es i).run P w = .ok (some (j, x)) w)
  | [], [], r, i, h, _ => by
    simp only [findM, Option.some.injEq] at h; subst h
    simp [Instr.findAsking]
  | (q, v) :: l, e :: es, r, i, h, hm => by
    obtain ⟨hq, hv, hm⟩ := hm
    simp only [findM] at h
    cases hb : eqM (ktag P t) k q with
    | none => rw [hb] at h; cases h
    | some b =>
      rw [hb] at h
      have he := eqM_ok (P := P) hb hu hq w
      cases b with
      | true =>
        simp only [Option.some.injEq] at h; subst h
        exact ⟨i, e.val, hv, by simp [Instr.findAsking, he]⟩
      | false =>
        simp only at h
        have ih := findM_ok hut hu w (i + 1) h hm
        cases r with
        | none => simpa [Instr.findAsking, he] using ih
        | some v' => simpa [Instr.findAsking, he] using ih
  | [], _ :: _, _, _, _, hm => hm.elim
  | _ :: _, [], _, _, _, hm => hm.elim
theorem findKey_eq {t : TypeId} {fs : Array Field} (hut : P.underlying t = some (.struct fs)) (x : Value) (es : List MapEntry) (w : World) :
    (Instr.findKey t x es).run P w = (Instr.findAsking t x es).run P w := by
  cases es with
  | nil => simp [Instr.findKey, run_underlying hut, Instr.findNow, Instr.findAsking]
  | cons e es => simp [Instr.findKey, run_underlying hut, Instr.findNow, Instr.sameNow]
theorem keyOk_flat {t : TypeId} {x : V} (h : keyOk (ktag P t) x = true) : x.live = true ∧ ∃ fs : Array Field, P.underlying t = some (.struct fs) := by
  unfold keyOk at h
  split at h
  · rename_i b hb
    obtain ⟨l, xs, ys, htg, rfl, hy, he⟩ := eqM_cases hb
    obtain ⟨fs, hut, _⟩ := ktag_flat htg
    exact ⟨rfl, fs, hut⟩
  · cases h
theorem zeroVV_ok {t : TypeId} (h : (zeroVV P t).live = true) (w : World) : ∃ z, (zeroValue t).run P w = .ok z w ∧ conc R (zeroVV P t) = some z := by
  unfold zeroVV at h ⊢
  cases hi : P.info? t with
  | none => rw [hi] at h; cases h
  | some i =>
    rw [hi] at h
    cases hz : i.zero with
    | none => simp only [hz] at h; cases h
    | some z =>
      simp only [hz] at h
      exact ⟨z, by simp [zeroValue, typeInfo, hi, hz], by simpa only [hz] using absV_ok R z h⟩
theorem Rel.mapAt (h : Rel C R σ w) {b : Nat} {l : List (V × V)} (hl : look σ.bl b = some (.map l)) : ∃ i es clock, R b = some i ∧ w.heap[i.blk]? = some (.map es clock) ∧ MapHolds R l es.toList := by
  obtain ⟨i, hi, _, es, clock, hw, hm⟩ := h.own b _ hl
  exact ⟨i, es, clock, hi, hw, hm⟩
theorem lookup_ok (hrel : Rel C R σ w) {t k el : TypeId} (hut : P.underlying t = some (.map k el)) {m x v : V} (h : lookupV (ktag P k) (zeroVV P el) m x σ = some v)
    {mv xv : Value} (hm : m.live = true → conc R m = some mv) (hx : x.live = true → conc R x = some xv) :
    ∃ y, conc R v = some y ∧ (Instr.lookup t mv xv true).run P w = .ok y w := by
  unfold lookupV at h
  split at h
  · rename_i b
    split at h
    · rename_i l hl
      split at h
      · rename_i hk
        obtain ⟨hlx, fs, hfs⟩ := keyOk_flat hk
        have hxv := hx hlx
        obtain ⟨i, es, clock, hi, hw, hmh⟩ := hrel.mapAt hl
        obtain ⟨j, hj, hmv⟩ := conc_mp_inv (hm rfl)
        rw [hi] at hj; cases hj
        subst hmv
        have hget : (getObj i.blk).run P w = .ok (.map es clock) w := by simp [getObj, Sem.run, hw]
        have hck := checkKey_ok (P := P) hk hxv es.isEmpty w
        unfold Instr.lookup
        split at h
        · rename_i u hf
          simp only [Option.some.injEq] at h; subst h
          obtain ⟨j, y, hy, hfa⟩ := findM_ok hfs hxv w 0 hf hmh
          refine ⟨_, conc_tup_mk (concs_cons.2 ⟨y, _, hy, concs_cons.2 ⟨.bool true, [], rfl, rfl, rfl⟩, rfl⟩), ?_⟩
          simp [run_underlying hut, hget, hck, findKey_eq hfs, hfa]
        · rename_i hf
          split at h
          · rename_i hz
            simp only [Option.some.injEq] at h; subst h
            obtain ⟨z, hzr, hzc⟩ := zeroVV_ok (P := P) (R := R) hz w
            have hfa := findM_ok hfs hxv w 0 hf hmh
            simp only at hfa
            refine ⟨_, conc_tup_mk (concs_cons.2 ⟨z, _, hzc, concs_cons.2 ⟨.bool false, [], rfl, rfl, rfl⟩, rfl⟩), ?_⟩
            simp [run_underlying hut, hget, hck, findKey_eq hfs, hfa, hzr]
          · cases h
        · cases h
      · cases h
    · cases h
  · cases h

theorem fieldAt0_ok {s : TypeId} {fs : Array Field} {f : Nat} {fd : Field} (hu : P.underlying s = some (.struct fs)) (hf : fs[f]? = some fd) (hz : sizeO P fd.type = some 0)
    (ho : fd.offset = 0) (hb : fd.byteOffset = 0) (hc : P.cellsOf s = 0) {v : Value} {blk sh : Nat} (hv : v = .pointer (some ⟨blk, sh, none⟩)) {fr : Nat × Nat} (hblk : w.heap[blk]? = some (.cells #[] s fr)) :
    (Instr.fieldAt s v f).run P w = .ok (.pointer (some ⟨blk, sh, none⟩)) w := by
  subst hv
  have hby : ∀ o, (byteOf ⟨blk, o, none⟩).run P w = .ok 0 w := fun o => by
    have hsh : w.shape? blk = some (s, 0) := by simp [World.shape?, hblk]
    unfold byteOf noView viewAt
    simp [hsh, hc]
  unfold Instr.fieldAt fieldPlace partAt
  simp [run_underlying hu, hf, Instr.sureAddr, run_sizeO hz w, ho, hb, hby]
theorem aopL_ok (hrel : Rel C R σ w) (he : EnvOk R e a.tmps) (o : Oper) {v : V} (h : aopL C.E (compOp P C.G o.op) e σ = some v) :
    ∃ x, conc R v = some x ∧ (execOp a.eval o).run P w = .ok (.value x) w := by
  have hg := hrel.globOk
  have val : ∀ {s : Sem Value} {x : Value}, s.run P w = .ok x w → (do pure (Next.value (← s)) : Sem Next).run P w = .ok (.value x) w := fun hs => by simp [hs]
  obtain ⟨dst, op, ty, pos, after, guard⟩ := o
  simp only at h
  cases op with
  | load t x =>
    simp only [compOp] at h
    cases hs : shapeOf P t with
    | none => rw [hs] at h; cases h
    | some s =>
      rw [hs] at h
      have h : aopL C.E (match s with | some 0 => AOp.load0 (compO C.G x) | s => AOp.load s (compO C.G x)) e σ = some v := by
        cases s with
        | none => exact h
        | some n => cases n <;> exact h
      obtain ⟨h1, h2⟩ := run_isAgg (P := P) hs w
      cases s with
      | none =>
        simp only [aopL] at h
        split at h
        · rename_i b off hx
          split at h
          · rename_i l hr
            obtain ⟨j, hj, hev⟩ := ev_ptr (a := a) he hg hx
            obtain ⟨i, arr, el, fr, hi, hblk, hold⟩ := hrel.read hr
            rw [hj] at hi; cases hi
            obtain ⟨y, hy, hone, hay⟩ := hold off v h
            refine ⟨y, hy, val ?_⟩
            have hc : w.cell? ⟨j.blk, j.shift + off, none⟩ = some y := by rw [cell_at hblk]; exact hay
            unfold Instr.loadAt loadVar
            simp [Instr.sureAddr, hev, h1, hc]
          · cases h
        · cases h
      | some n =>
        cases n with
        | zero => simp only [aopL] at h; cases h
        | succ n =>
        simp only [aopL] at h
        split at h
        · rename_i b off hx
          split at h
          · rename_i l hr; cases h
            obtain ⟨j, hj, hev⟩ := ev_ptr (a := a) he hg hx
            obtain ⟨i, xs, hi, hc, _, hlen, _, hcell⟩ := hrel.readN hr
            rw [hj] at hi; cases hi
            refine ⟨_, conc_agg_mk hc, val ?_⟩
            have hl := run_loadCells_list (P := P) w ⟨j.blk, j.shift + off, none⟩ xs hcell
            rw [hlen] at hl
            unfold Instr.loadAt loadVar
            simp [Instr.sureAddr, hev, h1, h2 _ rfl, hl]
          · cases h
        · cases h
  | convert s d x =>
    simp only [compOp] at h
    unfold ctag at h
    split at h
    · simp only [aopL] at h; cases h
    · simp only [aopL] at h; cases h
    · split at h <;> (simp only [aopL] at h; cases h)
    · rename_i el hs hd
      split at h
      · rename_i hel
        simp only [aopL] at h
        split at h
        · cases h
        rename_i hnostr
        split at h
        · rename_i q l hsrc
          split at h
          · rename_i str hb
            cases h
            refine ⟨_, rfl, val ?_⟩
            unfold srcCells at hsrc
            split at hsrc
            · rename_i hx
              have hc := ev (a := a) he hg hx rfl
              simp only [conc, Option.some.injEq] at hc
              cases hsrc
              simp only [bytesOf, Option.some.injEq] at hb; subst hb
              rw [← hc, run_convert_bytes_nil w s el hs hel 0 0 d hd]; rfl
            · rename_i b off k z hx
              obtain ⟨i, _, _, hev⟩ := conc_sle_inv (ev (a := a) he hg hx rfl)
              cases hsrc
              simp only [bytesOf, Option.some.injEq] at hb; subst hb
              rw [hev, run_convert_bytes_string w s d el _ 0 _ hs hel hd, run_bytesToString w _ 0 _ [] (by simp [loadCells, loadCellsFrom])]
              rfl
            · rename_i b off len c hx
              simp only [Option.map_eq_some_iff] at hsrc
              obtain ⟨l', hrd, heq⟩ := hsrc
              cases heq
              obtain ⟨i, m, hi, hev, _⟩ := conc_sl_inv (ev (a := a) he hg hx rfl)
              obtain ⟨i', xs, hi', hc, _, hlen, _, hcell⟩ := hrel.readN hrd
              rw [hi] at hi'; cases hi'
              obtain ⟨ns, rfl, rfl⟩ := bytesOf_ok hb hc
              have hl := run_loadCells_list (P := P) w ⟨i.blk, i.shift + off, none⟩ _ hcell
              rw [hlen, Nat.mul_one] at hl
              rw [hev, run_convert_bytes_string w s d el _ _ _ hs hel hd, run_bytesToString w _ _ _ ns hl, foldl_push_bytes]
              congr 2
              apply ByteArray.ext
              show #[] ++ _ = _
              simp [BS.toList_ofList]
            · rename_i l' hx
              exact (hnostr (by rw [hx]; rfl)).elim
            · cases hsrc
          · cases h
        · cases h
      · simp only [aopL] at h; cases h
    · simp only [aopL] at h; cases h
  | call c =>
    obtain ⟨callee, args, argTypes⟩ := c
    cases callee with
    | value f => cases f <;> (simp only [compOp, aopL] at h; cases h)
    | invoke r m => simp only [compOp, aopL] at h; cases h
    | builtin b =>
      simp only [compOp, compB] at h
      have hno : ∀ (q : Bool) (e1 : TypeId) (n m : Nat) (x y : AO), aopL C.E (if q = true then AOp.bad else AOp.append e1 n m x y) e σ ≠ some v := by
        intro q e1 n m x y; cases q <;> simp [aopL]
      split at h
      · (repeat' split at h) <;> (simp only [aopL] at h; cases h)
      · (repeat' split at h) <;> (simp only [aopL] at h; cases h)
      · split at h
        · split at h
          · split at h
            · exact (hno _ _ _ _ _ _ h).elim
            · simp only [aopL] at h; cases h
          · simp only [aopL] at h; cases h
        · simp only [aopL] at h; cases h
      · (repeat' split at h) <;> (simp only [aopL] at h; cases h)
      · simp only [aopL] at h; cases h
      · simp only [aopL] at h; cases h
      · simp only [aopL] at h; cases h
  | fieldAddr st x f =>
    simp only [compOp] at h
    split at h
    · rename_i fs hu
      split at h
      · rename_i fd hf
        split at h
        · rename_i hz
          split at h
          · rename_i hc
            simp only [Bool.and_eq_true, beq_iff_eq] at hc
            simp only [aopL] at h
            unfold faddr0V at h
            split at h
            · rename_i b hx
              split at h
              · rename_i t' hb
                split at h
                · rename_i ht
                  have ht := Nat.eq_of_beq_eq_true ht
                  subst ht
                  simp only [Option.some.injEq] at h; subst h
                  obtain ⟨i, hi, _, fr, hblk⟩ := hrel.own b _ hb
                  obtain ⟨j, hj, hev⟩ := ev_ptr (a := a) he hg hx
                  rw [hi] at hj; cases hj
                  refine ⟨_, conc_ptr_mk hi, val ?_⟩
                  exact fieldAt0_ok hu hf hz hc.1.1 hc.1.2 hc.2 hev hblk
                · cases h
              · cases h
            · cases h
          · simp only [aopL] at h; cases h
        · simp only [aopL] at h; cases h
        · simp only [aopL] at h; cases h
      · simp only [aopL] at h; cases h
    · simp only [aopL] at h; cases h
  | lookup t x y ok =>
    cases ok with
    | false => simp only [compOp, aopL] at h; cases h
    | true =>
      simp only [compOp] at h
      split at h
      · rename_i k el hut
        simp only [aopL] at h
        obtain ⟨z, hz, hrun⟩ := lookup_ok (P := P) hrel hut h (fun hl => ev (a := a) he hg rfl hl) (fun hl => ev (a := a) he hg rfl hl)
        exact ⟨z, hz, val hrun⟩
      · simp only [aopL] at h; cases h
  | makeMap t r => cases r <;> (simp only [compOp, aopL] at h; cases h)
  | move x => simp only [compOp, aopL] at h; cases h
  | assign x => simp only [compOp, aopL] at h; cases h
  | makeFunc f x y => cases f <;> (simp only [compOp, aopL] at h; cases h)
  | _ => simp only [compOp] at h; first | (simp only [aopL] at h; cases h; done) | ((repeat' split at h) <;> (simp only [aopL] at h; cases h))

/-! ### new blocks -/
theorem Holds.of_concs {l : List V} {xs : List Value} {arr : Array Value} (h : concs R l = some xs) (h1 : ∀ x ∈ xs, x.oneCell' = true) (ha : ∀ k, k < xs.length → arr[k]? = xs[k]?) : Holds R 0 l arr := by
  intro k v hk
  obtain ⟨x, hx, hkx⟩ := concs_get h hk
  have hlt : k < xs.length := by
    rcases Nat.lt_or_ge k xs.length with h | h
    · exact h
    · rw [List.getElem?_eq_none h] at hkx; cases hkx
  exact ⟨x, hx, h1 x (List.mem_of_getElem? hkx), by rw [Nat.zero_add, ha k hlt]; exact hkx⟩

theorem allOne_ok : ∀ {l : List V} {xs : List Value}, allOne l = true → concs R l = some xs → ∀ x ∈ xs, x.oneCell' = true
  | [], xs, _, hc => by simp only [concs, Option.some.injEq] at hc; subst hc; simp
  | v :: l, xs, h, hc => by
    obtain ⟨x, ys, hx, hy, rfl⟩ := concs_cons.1 hc
    simp only [allOne, Bool.and_eq_true] at h
    intro y hm
    rcases List.mem_cons.1 hm with rfl | hm
    · exact (conc_one h.1 hx).2
    · exact allOne_ok h.2 hy y hm

/-- A row of cells that a call makes. -/
theorem own_alloc {w' : World} {l : List V} {xs : List Value} {arr : Array Value} {el : TypeId} {lo hi endc n : Nat} (hb : w'.heap[n]? = some (.cells arr el (lo, hi)))
    (h : concs R l = some xs) (h1 : ∀ x ∈ xs, x.oneCell' = true) (ha : ∀ k, k < xs.length → arr[k]? = xs[k]?) (he : endc ≤ arr.size) (hl : l.length ≤ endc)
    (hf : ∀ off, off < arr.size → ¬ (lo ≤ off ∧ off < hi)) : OwnOk R ⟨n, 0, endc⟩ (.cells l) w' :=
  ⟨arr, el, lo, hi, hb, Holds.of_concs h h1 ha, by simpa using he, hl, hf⟩

theorem absCell_one {x : Value} (h : (absCell x).live = true) : (absCell x).one = true := by
  unfold absCell at h ⊢
  split at h <;> first | rfl | (cases h)
theorem absZ_one {x : Value} {l : List V} (h : absZ x = some l) : allOne l = true := by
  unfold absZ at h
  split at h
  · rename_i hall
    cases h
    generalize x.cells.toList = m at hall ⊢
    induction m with
    | nil => rfl
    | cons y m ih =>
      simp only [List.map_cons, List.all_cons, Bool.and_eq_true, allOne] at hall ⊢
      exact ⟨absCell_one hall.1, ih hall.2⟩
  · cases h
theorem zeroO_one {t : TypeId} {l : List V} (h : zeroO P t = some l) : allOne l = true := by
  unfold zeroO at h
  cases hi : P.info? t with
  | none => rw [hi] at h; cases h
  | some i =>
    rw [hi] at h
    cases hz : i.zero with
    | none => simp only [hz] at h; cases h
    | some z => simp only [hz] at h; exact absZ_one h

theorem heap_alloc_at (w : World) (o : Obj) : (w.alloc o).heap[w.heap.size]? = some o := by simp [World.alloc, -World.alloc_eq]

theorem concs_flatten_replicate {z : List V} {zs : List Value} (h : concs R z = some zs) : ∀ n, concs R (List.replicate n z).flatten = some (List.replicate n zs).flatten
  | 0 => rfl
  | n + 1 => by simp only [List.replicate_succ, List.flatten_cons]; exact concs_append h (concs_flatten_replicate h n)
theorem allOne_append : ∀ {l m : List V}, allOne l = true → allOne m = true → allOne (l ++ m) = true
  | [], m, _, hm => hm
  | v :: l, m, hl, hm => by
    simp only [allOne, List.cons_append, Bool.and_eq_true] at hl ⊢
    exact ⟨hl.1, allOne_append hl.2 hm⟩
theorem allOne_flatten_replicate {z : List V} (h : allOne z = true) : ∀ n, allOne (List.replicate n z).flatten = true
  | 0 => rfl
  | n + 1 => by simp only [List.replicate_succ, List.flatten_cons]; exact allOne_append h (allOne_flatten_replicate h n)

/-- 'make' fills a row with a type's zero value, again and again. -/
theorem rep_get (zs : List Value) (n k : Nat) (hk : k < n * zs.length) : (List.replicate n zs).flatten[k]? = zs[k % zs.length]? := by
  induction n generalizing k with
  | zero => omega
  | succ n ih =>
    simp only [List.replicate_succ, List.flatten_cons]
    have hz : 0 < zs.length := by
      rcases Nat.eq_zero_or_pos zs.length with h | h
      · rw [h] at hk; omega
      · exact h
    by_cases h : k < zs.length
    · rw [List.getElem?_append_left h, Nat.mod_eq_of_lt h]
    · have hmul : (n + 1) * zs.length = n * zs.length + zs.length := Nat.succ_mul n zs.length
      rw [List.getElem?_append_right (by omega), ih _ (by omega)]
      congr 1
      exact (Nat.mod_eq_sub_mod (by omega)).symm
theorem range_rep (zs : Array Value) (n : Nat) : (Array.range (n * zs.size)).map (fun i => zs[i % zs.size]!) = (List.replicate n zs.toList).flatten.toArray := by
  apply Array.ext'
  apply List.ext_getElem?
  intro k
  simp only [Array.toList_map, Array.toList_range, List.getElem?_map]
  by_cases hk : k < n * zs.size
  · rw [List.getElem?_range hk, rep_get _ _ _ (by simpa using hk)]
    simp only [Option.map_some, Array.length_toList]
    have hz : 0 < zs.size := by
      rcases Nat.eq_zero_or_pos zs.size with h | h
      · rw [h] at hk; omega
      · exact h
    have hlt : k % zs.size < zs.size := Nat.mod_lt _ hz
    simp [hlt]
  · rw [List.getElem?_eq_none (by simp; omega), List.getElem?_eq_none (by simp; omega)]
    rfl
end Go.Og

set_option linter.unusedSimpArgs false
namespace Go.Og
variable {P : Program} {G : Nat → Bool} {R : Ren} {e : Env} {a : Act} {C : Cx} {σ : H} {w : World}

theorem NewBlk.bytes (w : World) (el : TypeId) (s : ByteArray) : NewBlk w (Lib.bytesWorld w el s) :=
  ⟨fun k hk => Lib.bytesWorld_at_old w el s k hk, Lib.bytesWorld_size w el s, by simp [Lib.bytesWorld, World.freeze, World.alloc, World.drew, -World.alloc_eq, -World.drew_eq], by simp [Lib.bytesWorld, World.freeze, World.alloc, World.drew, -World.alloc_eq, -World.drew_eq], by simp [Lib.bytesWorld, World.freeze, World.alloc, World.drew, -World.alloc_eq, -World.drew_eq]⟩

theorem ints_concs (R : Ren) : ∀ l : List UInt8, concs R (ints l) = some (l.map fun b => Value.int .u8 b.toNat)
  | [] => rfl
  | _ :: l => concs_cons.2 ⟨_, _, rfl, ints_concs R l, rfl⟩

theorem conc_sl_ex {b off n c : Nat} {i : BI} (h : R b = some i) : conc R (.sl b off n (.ex c)) = some (.slice (some ⟨i.blk, i.shift + off, none⟩) n c) := by
  simp only [conc, h, Option.map_some]
theorem conc_sl_op {b off n z : Nat} {i : BI} (h : R b = some i) (hn : n ≤ i.cap z off) : conc R (.sl b off n (.op z)) = some (.slice (some ⟨i.blk, i.shift + off, none⟩) n (i.cap z off)) := by
  simp only [conc, h, Option.bind_some, if_pos hn]

theorem le_cut (need old : Nat) (el : TypeId) (t : Nat) : need ≤ (Question.appendCap need old el).cut t := by simp [Question.cut]

theorem aopA_ok (he : EnvOk R e a.tmps) (hg : GlobOk G R) (o : Oper) {id : Nat} {v : V} {b : Blk} (h : aopA (compOp P G o.op) e id = some (v, b)) (hid : R id = none) (w : World) :
    ∃ x w' i, (execOp a.eval o).run P w = .ok (.value x) w' ∧ NewBlk w w' ∧ i.blk = w.heap.size ∧ conc (upd R id i) v = some x ∧ OwnOk (upd R id i) i b w' := by
  have val : ∀ {s : Sem Value} {x : Value} {w' : World}, s.run P w = .ok x w' → (do pure (Next.value (← s)) : Sem Next).run P w = .ok (.value x) w' := fun hs => by simp [hs]
  have hle : ∀ i, Le R (upd R id i) := fun i k j hk => by
    by_cases he : k = id
    · subst he; rw [hid] at hk; cases hk
    · rw [upd_other he]; exact hk
  obtain ⟨dst, op, ty, pos, after, guard⟩ := o
  simp only at h
  cases op with
  | alloc t =>
    simp only [compOp] at h
    cases hz : zeroO P t with
    | none => rw [hz] at h; simp only [aopA] at h; cases h
    | some z =>
      rw [hz] at h
      cases z with
      | nil =>
        simp only [aopA, Option.some.injEq, Prod.mk.injEq] at h
        obtain ⟨rfl, rfl⟩ := h
        obtain ⟨zv, hzr, hzc⟩ := run_zeroO (P := P) (R := R) hz w
        have hz0 : zv.cells = #[] := by
          have := concs_length hzc
          simp at this; simpa using this
        refine ⟨_, _, ⟨w.heap.size, 0, 0⟩, val ?_, NewBlk.of_alloc w (.cells zv.cells t), rfl, conc_ptr_mk (upd_same _ _ _), ?_⟩
        · unfold Instr.alloc
          simp [hzr, newVar, newRow]
        · exact ⟨(0, 0), by rw [heap_alloc_at, hz0]⟩
      | cons z0 z =>
      simp only [aopA, Option.some.injEq, Prod.mk.injEq] at h
      obtain ⟨rfl, rfl⟩ := h
      obtain ⟨zv, hzr, _⟩ := run_zeroO (P := P) (R := R) hz w
      obtain ⟨zv', hzr', hzc⟩ := run_zeroO (P := P) (R := upd R id ⟨w.heap.size, 0, zv.cells.size⟩) hz w
      rw [hzr] at hzr'; cases hzr'
      refine ⟨_, _, ⟨w.heap.size, 0, zv.cells.size⟩, val ?_, NewBlk.of_alloc w (.cells zv.cells t), rfl, conc_ptr_mk (upd_same _ _ _), ?_⟩
      · unfold Instr.alloc
        simp [hzr, newVar, newRow]
      · refine own_alloc (heap_alloc_at w _) hzc (allOne_ok (zeroO_one hz) hzc) (fun k _ => by simp) (Nat.le_refl _) ?_ (fun _ _ h => by omega)
        have := concs_length hzc
        simp at this ⊢; omega
  | box t x =>
    simp only [compOp] at h
    split at h
    · simp only [aopA] at h
      split at h
      · rename_i hx
        simp only [Option.some.injEq, Prod.mk.injEq] at h
        obtain ⟨rfl, rfl⟩ := h
        obtain ⟨l, hl, hev⟩ := ev_agg (a := a) he hg hx
        simp only [concs, Option.some.injEq] at hl; subst hl
        refine ⟨_, _, ⟨w.heap.size, 0, 0⟩, val ?_, NewBlk.of_alloc w (.cells #[] t), rfl, conc_ptr_mk (upd_same _ _ _), ?_⟩
        · unfold Instr.box
          simp [hev, newVar, newRow, Value.cells]
        · exact ⟨(0, 0), by rw [heap_alloc_at]⟩
      · cases h
    · simp only [aopA] at h
      split at h
      · rename_i hl
        simp only [Bool.and_eq_true] at hl
        simp only [Option.some.injEq, Prod.mk.injEq] at h
        obtain ⟨rfl, rfl⟩ := h
        have hc := ev (a := a) he hg rfl hl.1
        have hcs := conc_cells hc
        refine ⟨_, _, ⟨w.heap.size, 0, (a.eval x).cells.size⟩, val ?_, NewBlk.of_alloc w (.cells (a.eval x).cells t), rfl, conc_ptr_mk (upd_same _ _ _), ?_⟩
        · unfold Instr.box
          simp [newVar, newRow]
        · have hcs' := concs_mono (hle ⟨w.heap.size, 0, (a.eval x).cells.size⟩) _ _ hcs
          refine own_alloc (heap_alloc_at w _) hcs' (allOne_ok hl.2 hcs') (fun k _ => by simp) (Nat.le_refl _) ?_ (fun _ _ h => by omega)
          have := concs_length hcs
          simp at this; omega
      · cases h
  | buildSlice t n ps =>
    simp only [compOp] at h
    split at h
    · rename_i el hu
      split at h
      · rename_i s z hs hz
        cases hc : compParts G (fun i => some (i * s, s)) ps.toList with
        | none => rw [hc] at h; simp only [aopA] at h; cases h
        | some l =>
          rw [hc] at h
          simp only at h
          split at h
          · simp only [aopA] at h; cases h
          · rename_i hcond
            simp only [Bool.not_eq_true, Bool.or_eq_false_iff, decide_eq_false_iff_not, bne_eq_false_iff_eq] at hcond
            obtain ⟨hsmall, hzl⟩ := hcond
            simp only [aopA] at h
            cases hf : fillA (parts e l) (List.replicate n z).flatten with
            | none => rw [hf] at h; cases h
            | some r =>
              rw [hf] at h
              simp only at h
              split at h
              · rename_i hone
                simp only [Option.some.injEq, Prod.mk.injEq] at h
                obtain ⟨rfl, rfl⟩ := h
                obtain ⟨zv, hzr, hzc⟩ := run_zeroO (P := P) (R := R) hz w
                have hzlen : zv.cells.size = s := by have := concs_length hzc; simp at this; omega
                have hzz := concs_flatten_replicate hzc n
                obtain ⟨out, h1, h2, h3⟩ := fill_ok (a := a) he hg ps.toList l _ r (List.replicate n zv.cells.toList).flatten.toArray hc (by simpa using hzz) hf
                have hrun : (Instr.buildSlice t n (ps.map fun (i, x) => (i, a.eval x))).run P w = .ok (.slice (some ⟨w.heap.size, 0, none⟩) n n) (w.alloc (.cells out el)) := by
                  have hmap : (ps.map (fun (x : Nat × Operand) => (x.1, a.eval x.2))).toList = ps.toList.map (fun (x : Nat × Operand) => (x.1, a.eval x.2)) := Array.toList_map
                  unfold Instr.buildSlice
                  simp only [Sem.run_bind, run_underlying hu, Result.andThen_ok, run_sizeO hs w]
                  rw [if_neg (by simpa using hsmall)]
                  by_cases h0 : n * s = 0
                  · rw [if_pos h0]
                    simp only [Sem.run_pure, Result.andThen_ok, hmap]
                    have hemp : (List.replicate n zv.cells.toList).flatten.toArray = #[] := by
                      apply Array.ext'
                      apply List.eq_nil_of_length_eq_zero
                      simp [hzlen, h0]
                    rw [hemp] at h1
                    have hr0 : ∀ f : Nat → Value, (Array.range (n * s)).map f = #[] := fun f => by rw [h0]; apply Array.ext'; simp
                    simp only [Sem.run_pure, Result.andThen_ok, hmap, hr0, h1, Sem.run_bind, newRow, run_newObj]
                    rfl
                  · rw [if_neg h0]
                    simp only [Sem.run_bind, hzr, Result.andThen_ok, Sem.run_pure, hmap]
                    have hr := range_rep zv.cells n
                    rw [hzlen] at hr
                    simp only [hzlen, hr, h1, Sem.run_bind, newRow, run_newObj, Result.andThen_ok, Sem.run_pure]
                    rfl
                refine ⟨_, _, ⟨w.heap.size, 0, out.size⟩, val hrun, NewBlk.of_alloc w _, rfl, ?_, ?_⟩
                · exact conc_sl_ex (upd_same _ _ _)
                · have hcs' := concs_mono (hle ⟨w.heap.size, 0, out.size⟩) _ _ h2
                  refine own_alloc (heap_alloc_at w _) hcs' (allOne_ok hone hcs') (fun k _ => by simp) (Nat.le_refl _) ?_ (fun _ _ h => by omega)
                  have := concs_length h2
                  simp at this; omega
              · cases h
      · simp only [aopA] at h; cases h
    · simp only [aopA] at h; cases h
  | convert s d x =>
    simp only [compOp] at h
    unfold ctag at h
    split at h
    · simp only [aopA] at h; cases h
    · simp only [aopA] at h; cases h
    · rename_i el hs hd
      split at h
      · rename_i hel
        simp only [aopA] at h
        split at h
        · rename_i l hx
          split at h
          · simp only [Option.some.injEq, Prod.mk.injEq] at h
            obtain ⟨rfl, rfl⟩ := h
            have hev := ev_str (a := a) he hg hx
            rw [← BS.length_toList]
            generalize l.toList = l at *
            have hsz : (ByteArray.mk l.toArray).size = l.length := by simp [ByteArray.size]
            have hcap : l.length ≤ grownCap w l.length 0 el := le_cut _ _ _ _
            have hcells : (Lib.bytesCells w el ⟨l.toArray⟩).size = grownCap w l.length 0 el := by
              simp [Lib.bytesCells, hsz]; omega
            refine ⟨_, _, ⟨w.heap.size, 0, (Lib.bytesCells w el ⟨l.toArray⟩).size⟩, val (by rw [hev]; exact Lib.run_convert_string_bytes w s d el _ hs hd hel), NewBlk.bytes w el _, rfl, ?_, ?_⟩
            · rw [conc_sl_op (upd_same _ _ _) (by simp [BI.cap, hcells]; exact hcap)]
              simp [BI.cap, hcells, hsz]
            · refine own_alloc (Lib.bytesWorld_at_new w el _) (ints_concs _ l) (by simp; intro x _; rfl) (fun k hk => ?_) (Nat.le_refl _) (by rw [hcells]; simpa [ints] using hcap) (fun off h1 h2 => by omega)
              simp only [List.length_map] at hk
              simp [Lib.bytesCells, Array.getElem?_append, hk]
          · cases h
        · cases h
      · simp only [aopA] at h; cases h
    · split at h <;> (simp only [aopA] at h; cases h)
    · simp only [aopA] at h; cases h
  | makeMap t r =>
    cases r with
    | some r => simp only [compOp, aopA] at h; cases h
    | none =>
      simp only [compOp, aopA, Option.some.injEq, Prod.mk.injEq] at h
      obtain ⟨rfl, rfl⟩ := h
      refine ⟨.map (some w.heap.size), w.alloc (.map #[] 0), ⟨w.heap.size, 0, 0⟩, val ?_, NewBlk.of_alloc w (.map #[] 0), rfl, by simp only [conc, upd_same, Option.map_some], ⟨#[], 0, heap_alloc_at w _, trivial⟩⟩
      simp [Instr.makeMap]
  | makeSlice t ln cp =>
    simp only [compOp] at h
    split at h
    · rename_i el hu
      split at h
      · rename_i i z hi hz
        split at h
        · simp only [aopA] at h; cases h
        · rename_i hzl
          simp only [Bool.not_eq_true, bne_eq_false_iff_eq] at hzl
          simp only [aopA] at h
          split at h
          · rename_i n c hn hc
            split at h
            · rename_i hcond
              obtain ⟨h0, h1, h2, h3⟩ := hcond
              simp only [Option.some.injEq, Prod.mk.injEq] at h
              obtain ⟨rfl, rfl⟩ := h
              obtain ⟨zv, hzr, hzc⟩ := run_zeroO (P := P) (R := R) hz w
              have hzlen : zv.cells.size = i.size := by have := concs_length hzc; simp at this; omega
              have hzz := concs_flatten_replicate hzc c.toNat
              have hwn : IntKind.i64.wrap n = n := IntWalk.i64_in n ⟨by omega, by omega⟩
              have hwc : IntKind.i64.wrap c = c := IntWalk.i64_in c ⟨by omega, by omega⟩
              have hrun : (Instr.makeSlice t (a.eval ln) (a.eval cp)).run P w = .ok (.slice (some ⟨w.heap.size, 0, none⟩) n.toNat c.toNat) (w.alloc (.cells (List.replicate c.toNat zv.cells.toList).flatten.toArray el)) := by
                rw [ev_int (a := a) he hg hn, ev_int (a := a) he hg hc]
                unfold Instr.makeSlice
                have hti : (typeInfo el).run P w = .ok i w := by simp [typeInfo, hi]
                have hsz : (sizeOf el).run P w = .ok i.size w := by simp [sizeOf, typeInfo, hi]
                simp only [Sem.run_bind, run_underlying hu, Result.andThen_ok, asInt, asIntOf, Sem.run_pure, hti, hwn, hwc]
                have ht1 : (decide (c < 0) || decide ((i.bytes : Int) * c > 2 ^ 48)) = false := by
                  rw [Int.mul_comm] at h2
                  simp; omega
                have ht2 : decide (n < 0) = false := by simp; omega
                have ht3 : decide (n > c) = false := by simp; omega
                simp only [ht1, ht2, ht3, Bool.or_false, Bool.false_or, Bool.false_eq_true, if_false, Sem.run_bind, run_askRoom, Result.andThen_ok, hsz]
                by_cases hz0 : c.toNat * i.size = 0
                · rw [if_pos hz0]
                  simp only [Sem.run_pure, Result.andThen_ok, newRow, Sem.run_bind, run_newObj, hz0]
                  have hemp : (List.replicate c.toNat zv.cells.toList).flatten.toArray = #[] := by
                    apply Array.ext'
                    apply List.eq_nil_of_length_eq_zero
                    simp [hzlen, hz0]
                  rw [hemp]
                  have hr0 : ∀ f : Nat → Value, (Array.range 0).map f = #[] := fun f => by apply Array.ext'; simp
                  rw [hr0]; rfl
                · rw [if_neg hz0]
                  have hr := range_rep zv.cells c.toNat
                  rw [hzlen] at hr
                  simp only [Sem.run_bind, hzr, Result.andThen_ok, Sem.run_pure, newRow, run_newObj, hzlen, hr]
                  rfl
              refine ⟨_, _, ⟨w.heap.size, 0, (List.replicate c.toNat zv.cells.toList).flatten.length⟩, val hrun, NewBlk.of_alloc w _, rfl, conc_sl_ex (upd_same _ _ _), ?_⟩
              have hcs' := concs_mono (hle ⟨w.heap.size, 0, (List.replicate c.toNat zv.cells.toList).flatten.length⟩) _ _ hzz
              refine own_alloc (heap_alloc_at w _) hcs' (allOne_ok (allOne_flatten_replicate (zeroO_one hz) _) hcs') (fun k _ => by simp) (by simp) ?_ (fun _ _ h => by omega)
              have := concs_length hzz
              omega
            · cases h
          · cases h
      · simp only [aopA] at h; cases h
    · simp only [aopA] at h; cases h
  | call c =>
    obtain ⟨callee, args, argTypes⟩ := c
    cases callee with
    | value f => cases f <;> (simp only [compOp, aopA] at h; cases h)
    | invoke r m => simp only [compOp, aopA] at h; cases h
    | builtin b' =>
      simp only [compOp, compB] at h
      have hno : ∀ (q : Bool) (e1 : TypeId) (n m : Nat) (x y : AO), aopA (if q = true then AOp.bad else AOp.append e1 n m x y) e id ≠ some (v, b) := by
        intro q e1 n m x y; cases q <;> simp [aopA]
      split at h
      · (repeat' split at h) <;> (simp only [aopA] at h; cases h)
      · (repeat' split at h) <;> (simp only [aopA] at h; cases h)
      · split at h
        · split at h
          · split at h
            · exact (hno _ _ _ _ _ _ h).elim
            · simp only [aopA] at h; cases h
          · simp only [aopA] at h; cases h
        · simp only [aopA] at h; cases h
      · (repeat' split at h) <;> (simp only [aopA] at h; cases h)
      · simp only [aopA] at h; cases h
      · simp only [aopA] at h; cases h
      · simp only [aopA] at h; cases h
  | lookup t x y ok => cases ok <;> simp only [compOp] at h <;> first | (simp only [aopA] at h; cases h; done) | ((repeat' split at h) <;> (simp only [aopA] at h; cases h))
  | move x => simp only [compOp, aopA] at h; cases h
  | assign x => simp only [compOp, aopA] at h; cases h
  | makeFunc f x y => cases f <;> (simp only [compOp, aopA] at h; cases h)
  | _ => simp only [compOp] at h; first | (simp only [aopA] at h; cases h; done) | ((repeat' split at h) <;> (simp only [aopA] at h; cases h))
end Go.Og
set_option linter.unusedSimpArgs false
namespace Go.Og
variable {P : Program} {G : Nat → Bool} {R : Ren} {e : Env} {a : Act} {C : Cx} {σ : H} {w : World}

/-- A world that is another one in one block alone. -/
structure OneBlk (b : Nat) (w w' : World) : Prop where
  old : ∀ k, k ≠ b → w'.heap[k]? = w.heap[k]?
  size : w'.heap.size = w.heap.size
  os : w'.os = w.os
  tape : w'.tape = w.tape
  output : w'.output = w.output

theorem setCells_heap (b : Nat) : ∀ (vs : List Value) (o : Nat) (w : World) (arr : Array Value) (el : TypeId) (fr : Nat × Nat), w.heap[b]? = some (.cells arr el fr) →
    OneBlk b w (w.setCells b o vs) ∧ ∃ arr' : Array Value, (w.setCells b o vs).heap[b]? = some (.cells arr' el fr) ∧ arr'.size = arr.size ∧
      ∀ k, arr'[k]? = if o ≤ k ∧ k < o + vs.length ∧ k < arr.size then vs[k - o]? else arr[k]?
  | [], o, w, arr, el, fr, h => ⟨⟨fun _ _ => rfl, rfl, rfl, rfl, rfl⟩, arr, h, rfl, fun k => by rw [if_neg (by simp; omega)]⟩
  | v :: vs, o, w, arr, el, fr, h => by
    have h1 : (w.setCell ⟨b, o, none⟩ v).heap[b]? = some (.cells (arr.setIfInBounds o v) el fr) := by
      simp [World.setCell, Array.getElem?_modify, h]
    obtain ⟨h2, arr', h3, h4, h5⟩ := setCells_heap b vs (o + 1) _ _ el fr h1
    refine ⟨⟨fun k hk => ?_, ?_, h2.os, h2.tape, h2.output⟩, arr', h3, by rw [h4, Array.size_setIfInBounds], fun k => ?_⟩
    · rw [World.setCells, h2.old k hk]
      simp [World.setCell, Array.getElem?_modify, Ne.symm hk]
    · rw [World.setCells, h2.size, World.size_setCell]
    · rw [h5, Array.size_setIfInBounds, Array.getElem?_setIfInBounds]
      by_cases hk : o = k
      · subst hk
        rw [if_neg (by omega), if_pos rfl]
        by_cases hs : o < arr.size
        · rw [if_pos hs, if_pos (by simp; omega)]; simp
        · rw [if_neg hs, if_neg (by omega), Array.getElem?_eq_none (by omega)]
      · rw [if_neg hk]
        by_cases hc : o + 1 ≤ k ∧ k < o + 1 + vs.length ∧ k < arr.size
        · rw [if_pos hc, if_pos (by simp; omega)]
          have : k - o = (k - (o + 1)) + 1 := by omega
          rw [this, List.getElem?_cons_succ]
        · rw [if_neg hc, if_neg (by simp only [List.length_cons]; omega)]

theorem store_heap {b o lo hi : Nat} {arr : Array Value} {el : TypeId} (h : w.heap[b]? = some (.cells arr el (lo, hi))) (hf : ∀ off, off < arr.size → ¬ (lo ≤ off ∧ off < hi))
    {xs : List Value} (h1 : ∀ x ∈ xs, x.oneCell' = true) (hle : o + xs.length ≤ arr.size) :
    ∃ w', (storeCells ⟨b, o, none⟩ xs).run P w = .ok () w' ∧ OneBlk b w w' ∧ ∃ arr' : Array Value, w'.heap[b]? = some (.cells arr' el (lo, hi)) ∧ arr'.size = arr.size ∧
      ∀ k, arr'[k]? = if o ≤ k ∧ k < o + xs.length then xs[k - o]? else arr[k]? := by
  have hrun := run_storeCells_cells (P := P) b o xs 0 w
    (fun j hj => by
      rw [cell_at h, Nat.add_zero]
      have : o + j < arr.size := by omega
      simp [this])
    (fun j hj => by
      have hlt : o + j < arr.size := by omega
      simp only [World.frozen?, h, Nat.add_zero]
      have := hf (o + j) hlt
      simp; omega) h1
  obtain ⟨h2, arr', h3, h4, h5⟩ := setCells_heap b xs (o + 0) w arr el (lo, hi) h
  refine ⟨_, hrun, h2, arr', h3, h4, fun k => ?_⟩
  rw [h5]
  simp only [Nat.add_zero]
  by_cases hc : o ≤ k ∧ k < o + xs.length
  · rw [if_pos hc, if_pos (by omega)]
  · rw [if_neg hc, if_neg (by omega)]

theorem write_ok (hrel : Rel C R σ w) {b off : Nat} {l cs : List V} {xs : List Value} (hb : look σ.bl b = some (.cells l)) (hcs : concs R cs = some xs) (h1 : allOne cs = true)
    (hle : off + cs.length ≤ l.length) {i : BI} (hi : R b = some i) :
    ∃ w', (storeCells ⟨i.blk, i.shift + off, none⟩ xs).run P w = .ok () w' ∧ Rel C R (σ.set b (.cells (spl l off cs))) w' := by
  obtain ⟨j, hj, hO, arr, el, lo, hi', hblk, hold, hend, hlen, hf⟩ := hrel.own b _ hb
  rw [hi] at hj; cases hj
  have hxl := concs_length hcs
  have hone := allOne_ok h1 hcs
  obtain ⟨w', hrun, hw, arr', h3, h4, h5⟩ := store_heap (P := P) (o := i.shift + off) hblk hf hone (by omega)
  refine ⟨w', hrun, hrel.write hb hi ?_ hw.old hw.size hw.os hw.tape hw.output⟩
  refine ⟨arr', el, lo, hi', h3, ?_, by omega, by rw [spl_length]; exact hlen, fun o ho => hf o (by omega)⟩
  intro k v hk
  rw [spl_get] at hk
  by_cases hc : off ≤ k ∧ k < off + cs.length
  · rw [if_pos hc, if_pos (by omega)] at hk
    obtain ⟨x, hx, hkx⟩ := concs_get hcs hk
    refine ⟨x, hx, hone x (List.mem_of_getElem? hkx), ?_⟩
    rw [h5, if_pos (by omega)]
    rw [show i.shift + k - (i.shift + off) = k - off by omega]
    exact hkx
  · rw [if_neg hc] at hk
    obtain ⟨x, hx, ho, hkx⟩ := hold k v hk
    refine ⟨x, hx, ho, ?_⟩
    rw [h5, if_neg (by omega)]
    exact hkx

/-- What a slice, or a string, gives. -/
theorem src_ok (hrel : Rel C R σ w) {esz n : Nat} {x : V} {l : List V} {u : Value} (h : srcCells C.E σ esz x = some (n, l)) (hu : conc R x = some u) :
    ∃ xs, concs R l = some xs ∧ (∀ y ∈ xs, y.oneCell' = true) ∧ (Builtin.lenOf u).run P w = .ok n w ∧ xs.length = n * esz ∧
      ∀ m, m ≤ n → (Builtin.firstCells esz m u).run P w = .ok (xs.take (m * esz)).toArray w := by
  unfold srcCells at h
  split at h
  · cases h; cases hu
    exact ⟨[], rfl, by simp, rfl, by simp, fun m hm => by simp [Builtin.firstCells]⟩
  · cases h
    obtain ⟨i, _, _, rfl⟩ := conc_sle_inv hu
    refine ⟨[], rfl, by simp, rfl, by simp, fun m hm => ?_⟩
    have : m = 0 := by omega
    subst this
    simp [Builtin.firstCells, loadCells, loadCellsFrom]
  · rename_i b off len c
    simp only [Option.map_eq_some_iff] at h
    obtain ⟨l', hrd, heq⟩ := h
    cases heq
    obtain ⟨i, m, hi, rfl, _⟩ := conc_sl_inv hu
    obtain ⟨i', xs, hi', hc, hone, hlen, _, hcell⟩ := hrel.readN hrd
    rw [hi] at hi'; cases hi'
    refine ⟨xs, hc, hone, rfl, hlen, fun k hk => ?_⟩
    have hkl : k * esz ≤ xs.length := by rw [hlen]; exact Nat.mul_le_mul_right _ hk
    have hl := run_loadCells_list (P := P) w ⟨i.blk, i.shift + off, none⟩ (xs.take (k * esz)) (fun j v hj => by
      rw [List.getElem?_take] at hj
      split at hj
      · exact hcell j v hj
      · cases hj)
    rw [List.length_take, Nat.min_eq_left hkl] at hl
    simp only [Builtin.firstCells]
    exact hl
  · rename_i s
    split at h
    · rename_i he
      cases h; cases hu
      rw [← BS.length_toList]
      generalize s.toList = s at *
      have hsz : (ByteArray.mk s.toArray).size = s.length := by simp [ByteArray.size]
      refine ⟨_, ints_concs R s, by simp; intro x _; rfl, by simp [Builtin.lenOf, hsz], by simp [he], fun m hm => ?_⟩
      simp only [Builtin.firstCells, Sem.run_pure]
      congr 1
      apply Array.ext'
      rw [he, Nat.mul_one, ByteArray.data_extract]
      simp [List.map_take]
    · cases h
  · cases h

theorem le_nextcap {need old bytes : Nat} (h : old < need) (hg : growable need bytes = true) : Builtin.nextslicecap need old * bytes ≤ 281474976710656 ∧ (need : Int) ≤ 9223372036854775807 := by
  simp only [growable, Bool.and_eq_true, Nat.ble_eq] at hg
  exact ⟨growslice_fits h hg.1, by omega⟩

set_option maxHeartbeats 800000 in
/-- append that makes a new array. -/
theorem grow_ok (hrel : Rel C R σ w) {t u ty el : TypeId} {i : TypeInfo} {z : Value} (ht : P.underlying t = some (.slice el)) {du : TypeDesc} (hu : P.underlying u = some du)
    (hnot : du = .string ∨ ∃ d, du = .slice d) (hi : P.info? el = some i) (hz : i.zero = some z) (hzs : z.cells.size = i.size)
    {base : Option Addr} {sLen sCap n : Nat} {x : Value} {old new : List Value} {lo ln : List V}
    (hlo : concs R lo = some old) (hln : concs R ln = some new) (h1o : ∀ y ∈ old, y.oneCell' = true) (h1n : ∀ y ∈ new, y.oneCell' = true)
    (hold : old.length = sLen * i.size) (hnew : new.length = n * i.size)
    (hlen : (Builtin.lenOf x).run P w = .ok n w) (hgo : ∀ d, (Builtin.firstCells i.size sLen (.slice base sLen sCap)).run P { w with drawn := d } = .ok old.toArray { w with drawn := d })
    (hgn : ∀ d, (Builtin.firstCells i.size n x).run P { w with drawn := d } = .ok new.toArray { w with drawn := d })
    (hlt : sCap < sLen + n) (hgr : growable (sLen + n) i.bytes = true) (_hpos : 0 < i.size) :
    ∃ w' c, (Builtin.append_ #[t, u] ty #[.slice base sLen sCap, x]).run P w = .ok (.slice (some ⟨w.heap.size, 0, none⟩) (sLen + n) c) w' ∧
      Rel C (upd R σ.next ⟨w.heap.size, 0, c * i.size⟩) (σ.add (.cells (lo ++ ln))) w' ∧ sLen + n ≤ c := by
  obtain ⟨hfit, h63⟩ := le_nextcap hlt hgr
  have hzero : ∀ d, (zeroValue el).run P { w with drawn := d } = .ok z { w with drawn := d } := fun d => by simp [zeroValue, typeInfo, hi, hz]
  let c := (Question.appendCap (sLen + n) sCap el).cut (w.tape w.drawn (.appendCap (sLen + n) sCap el))
  have hc : sLen + n ≤ c := le_cut _ _ _ _
  let arr := old.toArray ++ new.toArray ++ Builtin.zeroCells z.cells (c - (sLen + n))
  let w1 : World := { w with drawn := w.drawn + 1 }
  have hrun : (Builtin.append_ #[t, u] ty #[.slice base sLen sCap, x]).run P w = .ok (.slice (some ⟨w.heap.size, 0, none⟩) (sLen + n) c) (w1.alloc (.cells arr el)) := by
    have hn1 : ¬ (sLen + n ≤ sCap) := by omega
    have h63' : ¬ (9223372036854775807 < ((sLen : Int) + (n : Int))) := by omega
    have hfit' : ¬ (281474976710656 < Builtin.nextslicecap (sLen + n) sCap * i.bytes) := by omega
    have hgo' : (Builtin.firstCells i.size sLen (.slice base sLen sCap)).run P w.drew = .ok old.toArray w.drew := hgo _
    have hgn' : (Builtin.firstCells i.size n x).run P w.drew = .ok new.toArray w.drew := hgn _
    rcases hnot with rfl | ⟨d, rfl⟩
    all_goals simp [Builtin.append_, run_underlying ht, run_underlying hu, sizeOf, typeInfo, zeroValue, hi, hz, hlen, hn1, h63', hfit', Question.forced, hgo', hgn', newRow, c, arr, w1]
  refine ⟨_, c, hrun, ?_, hc⟩
  have hrel1 : Rel C R σ w1 := hrel.drawn _
  refine hrel1.alloc (NewBlk.of_alloc w1 _) _ _ rfl ?_
  have hcs := concs_append hlo hln
  have hle : Le R (upd R σ.next ⟨w.heap.size, 0, c * i.size⟩) := (upd_ext R σ.next _).le hrel.fresh
  have hlen2 := concs_length hcs
  have hmul : (sLen + n) * i.size = sLen * i.size + n * i.size := Nat.add_mul _ _ _
  have hml : (sLen + n) * i.size ≤ c * i.size := Nat.mul_le_mul_right _ hc
  refine own_alloc (heap_alloc_at w1 _) (concs_mono hle _ _ hcs) (fun y hy => ?_) (fun k hk => ?_) ?_ ?_ (fun _ _ h => by omega)
  · rcases List.mem_append.1 hy with h | h
    · exact h1o y h
    · exact h1n y h
  · have : arr = (old ++ new).toArray ++ Builtin.zeroCells z.cells (c - (sLen + n)) := by apply Array.ext'; simp [arr]
    rw [this, Array.getElem?_append_left (by simpa using hk)]
    simp
  · simp only [arr, Array.size_append, List.size_toArray, Builtin.zeroCells, Array.size_map, Array.size_range, hzs]
    have : c * i.size = (sLen + n) * i.size + (c - (sLen + n)) * i.size := by rw [← Nat.add_mul]; congr 1; omega
    omega
  · show (lo ++ ln).length ≤ c * i.size
    rw [← hlen2, List.length_append]; omega
end Go.Og

set_option linter.unusedSimpArgs false
namespace Go.Og
variable {P : Program} {G : Nat → Bool} {R : Ren} {e : Env} {a : Act} {C : Cx} {σ : H} {w : World}

set_option maxHeartbeats 800000 in
/-- append that fits. -/
theorem run_append_fits {t u ty el : TypeId} {i : TypeInfo} (ht : P.underlying t = some (.slice el)) {du : TypeDesc} (hu : P.underlying u = some du)
    (hnot : du = .string ∨ ∃ d, du = .slice d) (hi : P.info? el = some i) {base : Option Addr} {sLen sCap n : Nat} {x : Value} {new : Array Value}
    (hlen : (Builtin.lenOf x).run P w = .ok n w) (hle : sLen + n ≤ sCap) (hgn : (Builtin.firstCells i.size n x).run P w = .ok new w) {w' : World}
    (hst : ∀ b, base = some b → (storeCells (b.add (sLen * i.size)) new.toList).run P w = .ok () w') (hno : base = none → w' = w) :
    (Builtin.append_ #[t, u] ty #[.slice base sLen sCap, x]).run P w = .ok (.slice base (sLen + n) sCap) w' := by
  cases base with
  | none =>
    obtain rfl := hno rfl
    rcases hnot with rfl | ⟨d, rfl⟩
    all_goals simp [Builtin.append_, run_underlying ht, run_underlying hu, sizeOf, typeInfo, zeroValue, hi, hlen, hle, hgn]
  | some b =>
    have hst' := hst b rfl
    rcases hnot with rfl | ⟨d, rfl⟩
    all_goals simp [Builtin.append_, run_underlying ht, run_underlying hu, sizeOf, typeInfo, zeroValue, hi, hlen, hle, hgn, hst']

theorem storeCells_nil (b : Addr) : (storeCells b []).run P w = .ok () w := rfl

/-- What an operation that writes answers. -/
def KOk (P : Program) (C : Cx) (R : Ren) (σ : H) (s : Sem Next) (w : World) (v : V) (σ' : H) : Prop :=
  ∃ R' w' x, Ext σ.next R R' ∧ σ.next ≤ σ'.next ∧ Rel C R' σ' w' ∧ (v = .dead ∨ conc R' v = some x) ∧ (s.run P w = .ok (.value x) w' ∨ (s.run P w = .ok .skip w' ∧ v = .dead))

theorem appendV_ok (hrel : Rel C R σ w) {t u ty el : TypeId} {i : TypeInfo} {z : Value} (ht : P.underlying t = some (.slice el)) {du : TypeDesc} (hu : P.underlying u = some du)
    (hnot : du = .string ∨ ∃ d, du = .slice d) (hi : P.info? el = some i) (hz : i.zero = some z) (hzs : z.cells.size = i.size) (hpos : 0 < i.size)
    {s x : V} {sv xv : Value} (hs : s.live = true → conc R s = some sv) (hx : x.live = true → conc R x = some xv) {v : V} {σ' : H}
    (h : appendV C.E i.size i.bytes s x σ = some (v, σ')) :
    ∃ R' w' y, Ext σ.next R R' ∧ σ.next ≤ σ'.next ∧ Rel C R' σ' w' ∧ conc R' v = some y ∧ (Builtin.append_ #[t, u] ty #[sv, xv]).run P w = .ok y w' := by
  unfold appendV at h
  cases hsrc : srcCells C.E σ i.size x with
  | none => rw [hsrc] at h; cases h
  | some q =>
    obtain ⟨n, new⟩ := q
    rw [hsrc] at h
    simp only at h
    have hxl : x.live = true := by unfold srcCells at hsrc; split at hsrc <;> first | rfl | cases hsrc
    have hxc := hx hxl
    obtain ⟨xs, hnc, hnone, hlen, hxlen, hfirst⟩ := src_ok (P := P) hrel hsrc hxc
    have hfn := hfirst n (Nat.le_refl _)
    rw [List.take_of_length_le (by omega)] at hfn
    have hfd : ∀ d, (Builtin.firstCells i.size n xv).run P { w with drawn := d } = .ok xs.toArray { w with drawn := d } := fun d => by
      obtain ⟨xs', hnc', _, _, hxlen', hfirst'⟩ := src_ok (P := P) (hrel.drawn d) hsrc hxc
      rw [hnc] at hnc'; cases hnc'
      have := hfirst' n (Nat.le_refl _)
      rwa [List.take_of_length_le (by omega)] at this
    have hnl := concs_length hnc
    split at h
    · -- nil
      have hsv := hs rfl
      simp only [conc, Option.some.injEq] at hsv
      subst hsv
      split at h
      · rename_i hn0
        cases h
        subst hn0
        have hxs : xs = [] := List.eq_nil_of_length_eq_zero (by omega)
        subst hxs
        refine ⟨R, w, _, Ext.refl _ _, Nat.le_refl _, hrel, rfl, ?_⟩
        have := run_append_fits (P := P) (ty := ty) (base := none) (sLen := 0) (sCap := 0) ht hu hnot hi hlen (Nat.le_refl _) hfn (w' := w) (fun b e => by cases e) (fun _ => rfl)
        exact this
      · rename_i hn0
        split at h
        · rename_i hg
          cases h
          obtain ⟨w', c, hrun, hrel', hc⟩ := grow_ok (P := P) (ty := ty) (base := none) (sLen := 0) (sCap := 0) (old := []) (lo := []) hrel ht hu hnot hi hz hzs rfl hnc (by simp) hnone (by simp) hxlen hlen (fun d => by simp [Builtin.firstCells]) hfd (by omega) (by simpa using hg) hpos
          simp only [List.nil_append, Nat.zero_add] at hrel' hrun hc
          refine ⟨_, w', _, upd_ext _ _ _, Nat.le_succ _, hrel', conc_sl_op (upd_same _ _ _) (by simp [BI.cap, Nat.mul_div_cancel _ hpos]; exact hc), ?_⟩
          rw [hrun]
          simp [BI.cap, Nat.mul_div_cancel _ hpos]
        · cases h
    · -- a capacity that is known
      rename_i b off len c
      have hsv := hs rfl
      obtain ⟨j, m, hj, rfl, hex, _⟩ := conc_sl_inv hsv
      obtain rfl := hex c rfl
      split at h
      · rename_i hle
        simp only [Nat.ble_eq] at hle
        split at h
        · rename_i hn0
          cases h
          subst hn0
          have hxs : xs = [] := List.eq_nil_of_length_eq_zero (by omega)
          subst hxs
          exact ⟨R, w, _, Ext.refl _ _, Nat.le_refl _, hrel, hsv, run_append_fits (P := P) (ty := ty) ht hu hnot hi hlen hle hfn (w' := w) (fun b e => rfl) (fun e => by cases e)⟩
        · split at h
          · rename_i l hl
            split at h
            · rename_i hcond
              simp only [Bool.and_eq_true, Nat.ble_eq] at hcond
              cases h
              have hmul : (len + n) * i.size = len * i.size + n * i.size := Nat.add_mul _ _ _
              obtain ⟨w', hst, hrel'⟩ := write_ok (P := P) hrel (off := off + len * i.size) hl hnc hcond.2 (by omega) hj
              refine ⟨R, w', _, Ext.refl _ _, Nat.le_refl _, hrel', conc_sl_ex hj, run_append_fits (P := P) (ty := ty) ht hu hnot hi hlen hle hfn (w' := w') (fun b e => ?_) (fun e => by cases e)⟩
              cases e
              rw [add_eq, Nat.add_assoc]
              exact hst
            · cases h
          · cases h
      · rename_i hle
        simp only [Nat.ble_eq] at hle
        split at h
        · rename_i hg
          split at h
          · rename_i old hold
            cases h
            obtain ⟨j', ys, hj', hyc, hyone, hyl, _, hcell⟩ := hrel.readN hold
            rw [hj] at hj'; cases hj'
            obtain ⟨w', c', hrun, hrel', hc⟩ := grow_ok (P := P) (ty := ty) (base := some ⟨j.blk, j.shift + off, none⟩) (sLen := len) (sCap := m) hrel ht hu hnot hi hz hzs hyc hnc hyone hnone hyl hxlen hlen (fun d => by
              have := run_firstCells_some (P := P) { w with drawn := d } i.size len ⟨j.blk, j.shift + off, none⟩ len m ys hyl (fun k v hk => hcell k v hk)
              exact this) hfd (by omega) hg hpos
            refine ⟨_, w', _, upd_ext _ _ _, Nat.le_succ _, hrel', conc_sl_op (upd_same _ _ _) (by simp [BI.cap, Nat.mul_div_cancel _ hpos]; exact hc), ?_⟩
            rw [hrun]
            simp [BI.cap, Nat.mul_div_cancel _ hpos]
          · cases h
        · cases h
    · -- one that is not
      rename_i b len z'
      have hsv := hs rfl
      obtain ⟨j, m, hj, rfl, _, hop⟩ := conc_sl_inv hsv
      obtain ⟨hm, hlm⟩ := hop z' rfl
      split at h
      · rename_i hn0
        cases h
        subst hn0
        have hxs : xs = [] := List.eq_nil_of_length_eq_zero (by omega)
        subst hxs
        exact ⟨R, w, _, Ext.refl _ _, Nat.le_refl _, hrel, hsv, run_append_fits (P := P) (ty := ty) ht hu hnot hi hlen hlm hfn (w' := w) (fun b e => rfl) (fun e => by cases e)⟩
      · rename_i hn0
        split at h
        · rename_i l hl
          split at h
          · rename_i hcond
            simp only [Bool.and_eq_true, Nat.beq_eq] at hcond
            obtain ⟨⟨⟨hll, hze⟩, hg⟩, hone⟩ := hcond
            subst hze
            cases h
            obtain ⟨j', hj', hO, arr, el', lo, hi', hblk, hold, hend, hlen', hf⟩ := hrel.own b _ hl
            rw [hj] at hj'; cases hj'
            by_cases hfit : len + n ≤ m
            · -- in place
              have hmul : (len + n) * i.size = len * i.size + n * i.size := Nat.add_mul _ _ _
              have hroom : (len + n) * i.size ≤ j.endc := by
                have h1 : (len + n) * i.size ≤ m * i.size := Nat.mul_le_mul_right _ hfit
                have h2 : m * i.size ≤ j.endc := by rw [hm]; simpa [BI.cap] using Nat.div_mul_le_self j.endc i.size
                omega
              obtain ⟨w', hst, hw, arr', h3, h4, h5⟩ := store_heap (P := P) (o := j.shift + len * i.size) hblk hf hnone (by omega)
              have hle : Le R (upd R σ.next j) := (upd_ext R σ.next j).le hrel.fresh
              have hrel' : Rel C (upd R σ.next j) ((σ.del b).add (.cells (l ++ new))) w' := by
                refine hrel.rename hl hj ?_ hw.old hw.size hw.os hw.tape hw.output
                refine ⟨arr', el', lo, hi', h3, ?_, by omega, by rw [List.length_append]; omega, fun o ho => hf o (by omega)⟩
                intro k v hk
                by_cases hkl : k < l.length
                · rw [List.getElem?_append_left hkl] at hk
                  obtain ⟨y, hy, ho, hky⟩ := hold k v hk
                  refine ⟨y, conc_mono hle _ _ hy, ho, ?_⟩
                  rw [h5, if_neg (by omega)]
                  exact hky
                · rw [List.getElem?_append_right (by omega)] at hk
                  obtain ⟨y, hy, hky⟩ := concs_get hnc hk
                  have hlt : k - l.length < xs.length := by
                    rcases Nat.lt_or_ge (k - l.length) xs.length with h | h
                    · exact h
                    · rw [List.getElem?_eq_none h] at hky; cases hky
                  refine ⟨y, conc_mono hle _ _ hy, hnone y (List.mem_of_getElem? hky), ?_⟩
                  rw [h5, if_pos (by omega)]
                  rw [show j.shift + k - (j.shift + len * i.size) = k - l.length by omega]
                  exact hky
              refine ⟨_, w', _, upd_ext _ _ _, Nat.le_succ _, hrel', conc_sl_op (upd_same _ _ _) (by simpa [hm] using hfit), ?_⟩
              have := run_append_fits (P := P) (ty := ty) (base := some ⟨j.blk, j.shift + 0, none⟩) ht hu hnot hi hlen hfit hfn (w' := w') (fun b e => by cases e; rw [add_eq, Nat.add_zero]; exact hst) (fun e => by cases e)
              rw [this]
              simp [hm]
            · -- a new array
              have hrd : rdN C.E σ b 0 (len * i.size) = some l := by
                simp [rdN, rd, hl, hll, List.take_of_length_le (Nat.le_of_eq hll)]
              obtain ⟨j', ys, hj', hyc, hyone, hyl, _, hcell⟩ := hrel.readN hrd
              rw [hj] at hj'; cases hj'
              obtain ⟨w', c', hrun, hrel', hc⟩ := grow_ok (P := P) (ty := ty) (base := some ⟨j.blk, j.shift + 0, none⟩) (sLen := len) (sCap := m) hrel ht hu hnot hi hz hzs hyc hnc hyone hnone hyl hxlen hlen (fun d => by
                have := run_firstCells_some (P := P) { w with drawn := d } i.size len ⟨j.blk, j.shift + 0, none⟩ len m ys hyl (fun k v hk => hcell k v hk)
                exact this) hfd (by omega) hg hpos
              have hrel'' : Rel C (upd R σ.next ⟨w.heap.size, 0, c' * i.size⟩) ((σ.del b).add (.cells (l ++ new))) w' := by
                have := hrel'.del b
                have hne : ¬ σ.next = b := by have := hrel.next_of_own hl; omega
                simpa [H.del, H.add, drop, hne] using this
              refine ⟨_, w', _, upd_ext _ _ _, Nat.le_succ _, hrel'', conc_sl_op (upd_same _ _ _) (by simp [BI.cap, Nat.mul_div_cancel _ hpos]; exact hc), ?_⟩
              rw [hrun]
              simp [BI.cap, Nat.mul_div_cancel _ hpos]
          · cases h
        · cases h
    · rename_i b off len z' _
      have hsv := hs rfl
      obtain ⟨j, m, hj, rfl, _, hop⟩ := conc_sl_inv hsv
      obtain ⟨hm, hlm⟩ := hop z' rfl
      split at h
      · rename_i hn0
        cases h
        subst hn0
        have hxs : xs = [] := List.eq_nil_of_length_eq_zero (by omega)
        subst hxs
        exact ⟨R, w, _, Ext.refl _ _, Nat.le_refl _, hrel, hsv, run_append_fits (P := P) (ty := ty) ht hu hnot hi hlen hlm hfn (w' := w) (fun b e => rfl) (fun e => by cases e)⟩
      · cases h
    · cases h

theorem src_live {E : List (Nat × Blk)} {esz n : Nat} {x : V} {l : List V} (h : srcCells E σ esz x = some (n, l)) : x.live = true := by
  unfold srcCells at h
  split at h <;> first | rfl | cases h

theorem KOk.value {s : Sem Value} {v : V} {σ' : H} (h : ∃ R' w' x, Ext σ.next R R' ∧ σ.next ≤ σ'.next ∧ Rel C R' σ' w' ∧ conc R' v = some x ∧ s.run P w = .ok x w') :
    KOk P C R σ (do pure (Next.value (← s)) : Sem Next) w v σ' := by
  obtain ⟨R', w', x, h1, h2, h3, h4, h5⟩ := h
  exact ⟨R', w', x, h1, h2, h3, .inr h4, .inl (by simp [h5])⟩

theorem MapHolds.snoc {R : Ren} {k v : V} {e : MapEntry} (hk : conc R k = some e.key) (hv : conc R v = some e.val) : ∀ {l : List (V × V)} {es : List MapEntry}, MapHolds R l es → MapHolds R (l ++ [(k, v)]) (es ++ [e])
  | [], [], _ => ⟨hk, hv, trivial⟩
  | (_, _) :: _, _ :: _, ⟨h1, h2, h3⟩ => ⟨h1, h2, MapHolds.snoc hk hv h3⟩
  | [], _ :: _, h => h.elim
  | _ :: _, [], h => h.elim
theorem aopK_ok (hrel : Rel C R σ w) (he : EnvOk R e a.tmps) (o : Oper) {v : V} {σ' : H} (h : aopK C.E (compOp P C.G o.op) e σ = some (v, σ')) :
    KOk P C R σ (execOp a.eval o) w v σ' := by
  have hg := hrel.globOk
  obtain ⟨dst, op, ty, pos, after, guard⟩ := o
  simp only at h
  cases op with
  | store t x y =>
    simp only [compOp] at h
    cases hs : sizeO P t with
    | none => rw [hs] at h; simp only [aopK] at h; cases h
    | some n =>
      rw [hs] at h
      cases n with
      | zero =>
        simp only [aopK] at h
        split at h
        · rename_i b off hx hy
          simp only [Option.some.injEq, Prod.mk.injEq] at h
          obtain ⟨rfl, rfl⟩ := h
          obtain ⟨j, hj, hev⟩ := ev_ptr (a := a) he hg hx
          obtain ⟨l, hl, hevy⟩ := ev_agg (a := a) he hg hy
          simp only [concs, Option.some.injEq] at hl; subst hl
          refine ⟨R, w, undef, Ext.refl _ _, Nat.le_refl _, hrel, .inl rfl, .inr ⟨?_, rfl⟩⟩
          simp only [execOp]
          unfold Instr.storeAt storeVar
          simp [hev, hevy, Instr.sureAddr, run_sizeO hs w, Value.cells, storeCells_nil]
        · cases h
      | succ n =>
      simp only [aopK] at h
      split at h
      · rename_i b off hx
        split at h
        · rename_i l hl
          split at h
          · rename_i hcond
            simp only [Bool.and_eq_true, Nat.beq_eq, Nat.ble_eq] at hcond
            obtain ⟨⟨hn, hle⟩, hone⟩ := hcond
            cases h
            obtain ⟨j, hj, hev⟩ := ev_ptr (a := a) he hg hx
            have hyl : (opv e (compO C.G y)).live = true := by
              cases hy : opv e (compO C.G y) with
              | dead => rw [hy] at hone; simp [V.cells, allOne, V.one] at hone
              | _ => rfl
            have hcs := conc_cells (ev (a := a) he hg rfl hyl)
            have hlen := concs_length hcs
            obtain ⟨w', hst, hrel'⟩ := write_ok (P := P) hrel (off := off) hl hcs hone (by omega) hj
            refine ⟨R, w', undef, Ext.refl _ _, Nat.le_refl _, hrel', .inl rfl, .inr ⟨?_, rfl⟩⟩
            simp only [Array.length_toList] at hlen
            have hsz : ¬ ((a.eval y).cells.size ≠ n + 1) := by omega
            simp only [execOp]
            unfold Instr.storeAt storeVar
            simp only [Sem.run_bind, hev, Instr.sureAddr, Sem.run_pure, Result.andThen_ok, run_sizeO hs w]
            rw [if_neg hsz]
            simp [hst]
          · cases h
        · cases h
      · cases h
  | call c =>
    obtain ⟨callee, args, argTypes⟩ := c
    cases callee with
    | value f => cases f <;> (simp only [compOp, aopK] at h; cases h)
    | invoke r m => simp only [compOp, aopK] at h; cases h
    | builtin b =>
      have hcall : ∀ {v σ'}, KOk P C R σ (builtin b argTypes ty (args.map fun | .const _ => true | _ => false) (args.map a.eval)) w v σ' → KOk P C R σ (execOp a.eval ⟨dst, .call ⟨.builtin b, args, argTypes⟩, ty, pos, after, guard⟩) w v σ' := by
        rintro v σ' ⟨R', w', x, h1, h2, h3, h4, h5⟩
        refine ⟨R', w', x, h1, h2, h3, h4, ?_⟩
        simp only [execOp, resolve, Sem.run_bind, Sem.run_pure, Result.andThen_ok, invoke]
        exact h5
      apply hcall
      simp only [compOp] at h
      obtain ⟨args⟩ := args
      obtain ⟨argTypes⟩ := argTypes
      generalize (Array.map (fun | Operand.const _ => true | _ => false) (⟨args⟩ : Array Operand)) = lits
      unfold compB at h
      split at h
      · (repeat' split at h) <;> (simp only [aopK] at h; cases h)
      · (repeat' split at h) <;> (simp only [aopK] at h; cases h)
      · -- append
        rename_i t u os ox hts has
        simp only at hts has
        subst hts has
        split at h
        · rename_i el du hu hdu
          split at h
          · rename_i i hi
            split at h
            · rename_i z hz
              split at h
              · simp only [aopK] at h; cases h
              · rename_i hcond
                simp only [Bool.not_eq_true, Bool.or_eq_false_iff, Bool.not_eq_false', bne_eq_false_iff_eq, beq_eq_false_iff_ne] at hcond
                obtain ⟨⟨hseq, hpos⟩, hzs⟩ := hcond
                have hnot : du = .string ∨ ∃ d, du = .slice d := by
                  cases du <;> first | exact .inl rfl | exact .inr ⟨_, rfl⟩ | cases hseq
                simp only [aopK] at h
                simp only [builtin]
                rw [show Array.map a.eval ⟨[os, ox]⟩ = #[a.eval os, a.eval ox] from by simp]
                apply KOk.value
                exact appendV_ok (P := P) (ty := ty) hrel hu hdu hnot hi hz hzs (by omega) (fun hl => ev (a := a) he hg rfl hl) (fun hl => ev (a := a) he hg rfl hl) h
            · simp only [aopK] at h; cases h
          · simp only [aopK] at h; cases h
        · simp only [aopK] at h; cases h
      · -- copy
        rename_i t u od os hts has
        simp only at hts has
        subst hts has
        split at h
        · rename_i el du hu hdu
          split at h
          · rename_i i hi
            simp only [aopK] at h
            simp only [builtin]
            rw [show Array.map a.eval ⟨[od, os]⟩ = #[a.eval od, a.eval os] from by simp]
            apply KOk.value
            have hsz : (sizeOf el).run P w = .ok i.size w := by simp [sizeOf, typeInfo, hi]
            have hsrcl : ∀ {n l}, srcCells C.E σ i.size (opv e (compO C.G os)) = some (n, l) → (opv e (compO C.G os)).live = true := src_live
            split at h
            · rename_i n l hd hsrc
              cases h
              have hdc := ev (a := a) he hg hd rfl
              simp only [conc, Option.some.injEq] at hdc
              obtain ⟨xs, _, _, hlen, _, hfirst⟩ := src_ok (P := P) hrel hsrc (ev (a := a) he hg rfl (hsrcl hsrc))
              refine ⟨R, w, _, Ext.refl _ _, Nat.le_refl _, hrel, rfl, ?_⟩
              have h0 := hfirst 0 (Nat.zero_le _)
              rw [← hdc]
              simp [Builtin.copy_, run_underlying hu, hlen, hsz, h0, goInt]
            · rename_i b off k z n l hd hsrc
              cases h
              obtain ⟨j, _, _, hev⟩ := conc_sle_inv (ev (a := a) he hg hd rfl)
              obtain ⟨xs, _, _, hlen, _, hfirst⟩ := src_ok (P := P) hrel hsrc (ev (a := a) he hg rfl (hsrcl hsrc))
              refine ⟨R, w, _, Ext.refl _ _, Nat.le_refl _, hrel, rfl, ?_⟩
              have h0 := hfirst 0 (Nat.zero_le _)
              rw [hev]
              simp [Builtin.copy_, run_underlying hu, hlen, hsz, h0, goInt, storeCells_nil]
            · rename_i b off len c n src hd hsrc
              obtain ⟨j, m, hj, hev, _⟩ := conc_sl_inv (ev (a := a) he hg hd rfl)
              obtain ⟨xs, hxc, hxone, hlen, hxlen, hfirst⟩ := src_ok (P := P) hrel hsrc (ev (a := a) he hg rfl (hsrcl hsrc))
              have hf := hfirst (Nat.min n len) (Nat.min_le_left _ _)
              split at h
              · rename_i h0
                cases h
                rw [h0] at hf
                refine ⟨R, w, _, Ext.refl _ _, Nat.le_refl _, hrel, rfl, ?_⟩
                rw [hev]
                simp [Builtin.copy_, run_underlying hu, hlen, hsz, h0, hf, goInt, storeCells_nil]
              · split at h
                · rename_i l hl
                  split at h
                  · rename_i hcond
                    simp only [Bool.and_eq_true, Nat.ble_eq] at hcond
                    cases h
                    have htk := concs_take hxc (Nat.min n len * i.size)
                    have htl := concs_length hxc
                    have hmm : Nat.min n len * i.size ≤ n * i.size := Nat.mul_le_mul_right _ (Nat.min_le_left _ _)
                    obtain ⟨w', hst, hrel'⟩ := write_ok (P := P) hrel (off := off) hl htk hcond.2 (by rw [List.length_take]; omega) hj
                    refine ⟨R, w', _, Ext.refl _ _, Nat.le_refl _, hrel', rfl, ?_⟩
                    rw [hev]
                    simp [Builtin.copy_, run_underlying hu, hlen, hsz, hf, goInt, hst]
                  · cases h
                · cases h
            · cases h
          · simp only [aopK] at h; cases h
        · simp only [aopK] at h; cases h
      · simp only [aopK] at h; cases h
      · simp only [aopK] at h; cases h
      · simp only [aopK] at h; cases h
  | mapUpdate t x y z =>
    simp only [compOp] at h
    split at h
    · rename_i kt vt hut
      simp only [aopK] at h
      unfold mapsetV at h
      split at h
      · rename_i b hb
        split at h
        · rename_i l hl
          split at h
          · rename_i hc
            simp only [Bool.and_eq_true] at hc
            split at h
            · rename_i hf
              simp only [Option.some.injEq, Prod.mk.injEq] at h
              obtain ⟨rfl, rfl⟩ := h
              obtain ⟨hlk, fs, hfs⟩ := keyOk_flat hc.1
              have hkv := ev (a := a) he hg rfl hlk
              have hvv := ev (a := a) he hg rfl hc.2
              obtain ⟨i, es, clock, hi, hw, hmh⟩ := hrel.mapAt hl
              obtain ⟨j, hj, hmv⟩ := conc_mp_inv (ev (a := a) he hg hb rfl)
              rw [hi] at hj; cases hj
              have hget : (getObj i.blk).run P w = .ok (.map es clock) w := by simp [getObj, Sem.run, hw]
              have hck := checkKey_ok (P := P) hc.1 hkv false w
              have hfa := findM_ok hfs hkv w 0 hf hmh
              simp only at hfa
              have hset : ∀ o, (setObj i.blk o).run P w = .ok () { w with heap := w.heap.setIfInBounds i.blk o } := fun o => by simp [setObj, Sem.run, hw]
              have hlt : i.blk < w.heap.size := (Array.getElem?_eq_some_iff.1 hw).1
              refine ⟨R, { w with heap := w.heap.setIfInBounds i.blk (.map (es.push { key := a.eval y, val := a.eval z, born := clock }) (clock + 1)) }, undef, Ext.refl _ _, Nat.le_refl _, hrel.write hl hi ?_ ?_ ?_ rfl rfl rfl, .inl rfl, .inr ⟨?_, rfl⟩⟩
              · exact ⟨es.push { key := a.eval y, val := a.eval z, born := clock }, clock + 1, by simp [hlt], by simpa using MapHolds.snoc (e := { key := a.eval y, val := a.eval z, born := clock }) hkv hvv hmh⟩
              · intro k hk
                simp [Ne.symm hk]
              · simp
              · simp only [execOp]
                unfold Instr.mapUpdate
                simp [hmv, run_underlying hut, hget, hck, findKey_eq hfs, hfa, hset]
            · cases h
          · cases h
        · cases h
      · cases h
    · simp only [aopK] at h; cases h
  | makeMap t r => cases r <;> (simp only [compOp, aopK] at h; cases h)
  | lookup t x y ok => cases ok <;> simp only [compOp] at h <;> first | (simp only [aopK] at h; cases h; done) | ((repeat' split at h) <;> (simp only [aopK] at h; cases h))
  | move x => simp only [compOp, aopK] at h; cases h
  | assign x => simp only [compOp, aopK] at h; cases h
  | makeFunc f x y => cases f <;> (simp only [compOp, aopK] at h; cases h)
  | _ => simp only [compOp] at h; first | (simp only [aopK] at h; cases h; done) | ((repeat' split at h) <;> (simp only [aopK] at h; cases h))
end Go.Og

set_option linter.unusedSimpArgs false
namespace Go.Og

inductive AX where
  | normal | exit (id : Nat) | ret
  deriving DecidableEq, Inhabited

/-- Rounds of a loop. -/
def iter (f : Env → H → Option (AX × Env × H)) : Nat → Env → H → Option (AX × Env × H)
  | 0, _, _ => none
  | n + 1, e, σ => match f e σ with
    | none => none
    | some (.normal, e', σ') => iter f n e' σ'
    | some (x, e', σ') => some (x, e', σ')

/-- The evaluator of a region whose order is open: OgW says when it is right. -/
abbrev DrawFn := List AOper → List DP → Env → H → Option (Env × H)

def den (E : List (Nat × Blk)) (D : Den) (W : DrawFn) (N : Nat) : AC → Env → H → Option (AX × Env × H)
  | .skip, e, σ => some (.normal, e, σ)
  | .region ops, e, σ => match denOps E D ops e σ with
    | some (e', σ') => some (.normal, e', σ')
    | none => none
  | .draw ops ms, e, σ => match W ops ms e σ with
    | some (e', σ') => some (.normal, e', σ')
    | none => none
  | .seq a b, e, σ => match den E D W N a e σ with
    | some (.normal, e', σ') => den E D W N b e' σ'
    | some (x, e', σ') => some (x, e', σ')
    | none => none
  | .cond c a b, e, σ => match opv e c with
    | .bool true => den E D W N a e σ
    | .bool false => den E D W N b e σ
    | _ => none
  | .block id c, e, σ => match den E D W N c e σ with
    | some (.exit j, e', σ') => if Nat.beq j id then some (.normal, e', σ') else some (.exit j, e', σ')
    | some (x, e', σ') => some (x, e', σ')
    | none => none
  | .loop c, e, σ => iter (den E D W N c) N e σ
  | .exit id, e, σ => some (.exit id, e, σ)
  | .ret, e, σ => some (.ret, e, σ)
  | .keep ts c, e, σ => den E D W N c (restr ts e) σ
  | .bad, _, _ => none

def resV (E : List (Nat × Blk)) (e : Env) (σ : H) : List AR → Option (List V)
  | [] => some []
  | .tmp t :: l => match (getE e t).live, resV E e σ l with
    | true, some r => some (getE e t :: r)
    | _, _ => none
  | .cell t n :: l => match getE e t, resV E e σ l with
    | .ptr b off, some r => match n with
      | none => match rd E σ b with
        | some cs => match cs[off]? with
          | some v => some (v :: r)
          | none => none
        | none => none
      | some n => match rdN E σ b off n with
        | some cs => some (.agg cs :: r)
        | none => none
    | _, _ => none

def freeAll : List Nat → Env → H → H
  | [], _, σ => σ
  | t :: l, e, σ => freeAll l e (match getE e t with
    | .ptr b 0 => σ.del b
    | _ => σ)

def oneV : List V → V
  | [v] => v
  | l => .tup l

/-- The temporaries of a call: its arguments. -/
def argE : Nat → List V → Env
  | _, [] => []
  | k, v :: l => (k, v) :: argE (k + 1) l

def runFn (E : List (Nat × Blk)) (D : Den) (W : DrawFn) (N : Nat) (f : AFn) (args : List V) (σ : H) : Option (V × H) :=
  match den E D W N f.body (argE 0 args) σ with
  | some (.exit _, _, _) => none
  | some (_, e, σ') => match resV E e σ' f.results with
    | some l => some (oneV l, freeAll f.frees e σ')
    | none => none
  | none => none

variable {P : Program} {G : Nat → Bool} {E : List (Nat × Blk)}

/-- What D answers, the model's function answers. -/
def SoundFn (P : Program) (E : List (Nat × Blk)) (G : Nat → Bool) (f : FuncId) (D : List V → H → Option (V × H)) : Prop :=
  ∀ (C : Cx), C.E = E → C.G = G → ∀ (R : Ren) (σ : H) (w : World) (args : List V) (xs : List Value) (v : V) (σ' : H), D args σ = some (v, σ') → Rel C R σ w → concs R args = some xs →
    callOk P f = true ∧ Calls P f xs.toArray w fun en w' => ∃ R' x, Ext σ.next R R' ∧ σ.next ≤ σ'.next ∧ Rel C R' σ' w' ∧ conc R' v = some x ∧ en = .returned x

theorem EnvOk.put {R : Ren} {e : Env} {a : Act} (h : EnvOk R e a.tmps) {dst : Option Nat} (hd : dstOk a.tmps.size dst = true) {v : V} {x : Value} (hv : v = .dead ∨ conc R v = some x) : EnvOk R (putE e dst v) (a.put dst x).tmps := by
  cases dst with
  | none => exact h
  | some d =>
    simp only [dstOk, Nat.blt_eq] at hd
    refine ⟨fun k u hk => ?_⟩
    simp only [putE, look] at hk
    simp only [Act.put, Array.getElem?_setIfInBounds]
    by_cases hdk : d = k
    · subst hdk
      rw [if_pos (by simp)] at hk
      cases hk
      rw [if_pos rfl, if_pos hd]
      exact hv.imp id fun h => ⟨x, rfl, h⟩
    · rw [if_neg (by simpa using hdk)] at hk
      rw [if_neg hdk]
      exact h.at_ k u hk
theorem look_restr (ls : List Nat) (e : Env) (t : Nat) (v : V) (h : look (restr ls e) t = some v) : look e t = some v ∧ memN ls t = true := by
  induction ls with
  | nil => simp [restr, look] at h
  | cons a ls ih =>
    simp only [restr] at h
    simp only [memN, Bool.or_eq_true, Nat.beq_eq]
    cases ha : look e a with
    | none => rw [ha] at h; exact (ih h).imp id .inr
    | some u =>
      rw [ha] at h
      simp only [look] at h
      by_cases hat : a = t
      · subst hat
        rw [if_pos (by simp)] at h
        cases h
        exact ⟨ha, .inl rfl⟩
      · rw [if_neg (by simpa using hat)] at h
        exact (ih h).imp id .inr
theorem EnvOk.restr {R : Ren} {tmps : Array Value} (ts : List Nat) {e : Env} (h : EnvOk R e tmps) : EnvOk R (Og.restr ts e) tmps :=
  ⟨fun k v hk => h.at_ k v (look_restr ts e k v hk).1⟩
theorem size_put (a : Act) (dst : Option Nat) (x : Value) : (a.put dst x).tmps.size = a.tmps.size := by cases dst <;> simp [Act.put]
theorem defers_put (a : Act) (dst : Option Nat) (x : Value) : (a.put dst x).defers = a.defers := by cases dst <;> rfl

/-- One operation. -/
theorem den1_ok {D : Den} (hD : ∀ f, SoundFn P E G f (D f)) {C : Cx} (hE : C.E = E) (hG : C.G = G) {R : Ren} {σ : H} {w : World} {e : Env} {a : Act} (hrel : Rel C R σ w) (he : EnvOk R e a.tmps)
    (o : Oper) {v : V} {σ' : H} (h : den1 E D (compOp P G o.op) e σ = some (v, σ')) (K : Act → World → Prop) (Q : Exit → Act → World → Prop)
    (hK : ∀ R' w' x, Ext σ.next R R' → σ.next ≤ σ'.next → Rel C R' σ' w' → (v = .dead ∨ conc R' v = some x) → K (a.put o.dst x) w') : o.wp P a w K Q := by
  subst hE hG
  have hg := hrel.globOk
  have plain : ∀ (h : aop C.E (compOp P C.G o.op) e σ = some (v, σ')), o.wp P a w K Q := by
    intro h
    unfold aop at h
    split at h
    · split at h
      · rename_i v' hp
        cases h
        obtain ⟨x, hx, hrun⟩ := aopP_ok (a := a) (P := P) he hg o hp w
        unfold Oper.wp
        rw [hrun]
        exact hK R w x (Ext.refl _ _) (Nat.le_refl _) hrel (.inr hx)
      · cases h
    · split at h
      · rename_i v' hp
        cases h
        obtain ⟨x, hx, hrun⟩ := aopL_ok (P := P) hrel he o hp
        unfold Oper.wp
        rw [hrun]
        exact hK R w x (Ext.refl _ _) (Nat.le_refl _) hrel (.inr hx)
      · cases h
    · split at h
      · rename_i v' b hp
        cases h
        obtain ⟨x, w', i, hrun, hn, hi, hx, hok⟩ := aopA_ok (a := a) (P := P) he hg o hp (hrel.fresh _ (Nat.le_refl _)) w
        unfold Oper.wp
        rw [hrun]
        exact hK _ w' x (upd_ext _ _ _) (Nat.le_succ _) (hrel.alloc hn b i hi hok) (.inr hx)
      · cases h
    · obtain ⟨R', w', x, h1, h2, h3, h4, h5⟩ := aopK_ok (P := P) hrel he o h
      unfold Oper.wp
      rcases h5 with h5 | ⟨h5, hv⟩
      · rw [h5]; exact hK R' w' x h1 h2 h3 h4
      · rw [h5]; exact hK R' w' undef h1 h2 h3 (.inl hv)
  have hcallrun : ∀ (g : FuncId) (args : Array Value), callOk P g = true → (callFunc g args).run P w = .ok (.enter g args) w := by
    intro g args hok
    unfold callOk at hok
    unfold callFunc
    simp only [Sem.run_bind, run_program, Result.andThen_ok]
    cases hf : P.funcs[g]? with
    | none => rw [hf] at hok; cases hok
    | some fn =>
      rw [hf] at hok
      simp only [Bool.and_eq_true, bne_iff_ne] at hok
      have h1 : (fn.name == "runtime.NumGoroutine") = false := by simpa using hok.1
      have h2 : fn.body.isNone = false := by cases hb : fn.body <;> simp_all
      simp only [h1, h2, Bool.false_eq_true, if_false, Sem.run_pure]
  have enter : ∀ (g : FuncId) (vs : List V) (xs : List Value), concs R vs = some xs → D g vs σ = some (v, σ') → (execOp a.eval o).run P w = (callFunc g xs.toArray).run P w → o.wp P a w K Q := by
    intro g vs xs hvs hd hrun
    obtain ⟨hok, hc⟩ := hD g C rfl rfl R σ w vs xs v σ' hd hrel hvs
    unfold Oper.wp
    rw [hrun, hcallrun g _ hok, Oper.upon_enter]
    refine hc.mono ?_
    rintro en w' ⟨R', x, h1, h2, h3, h4, rfl⟩
    exact hK R' w' x h1 h2 h3 (.inr h4)
  cases hop : compOp P C.G o.op with
  | call f args =>
    rw [hop] at h
    simp only [den1] at h
    obtain ⟨dst, op, ty, pos, after, guard⟩ := o
    have hsh : ∃ c, op = .call c ∧ c.callee = .value (.func f) ∧ args = c.args.toList.map (compO C.G) := by
      simp only at hop
      cases op <;> simp only [compOp] at hop <;> (try (first | (cases hop; done) | ((repeat' split at hop) <;> (cases hop; done))))
      · rename_i fn _ _; cases fn <;> cases hop
      · rename_i r; cases r <;> cases hop
      · rename_i ok; cases ok
        · cases hop
        · simp only at hop; split at hop <;> cases hop
      · rename_i c
        refine ⟨c, rfl, ?_⟩
        obtain ⟨callee, cargs, argTypes⟩ := c
        simp only at hop
        split at hop
        · unfold compB at hop; (repeat' split at hop) <;> cases hop
        · cases hop; exact ⟨rfl, rfl⟩
        · cases hop
        · cases hop
    obtain ⟨c, rfl, hcal, rfl⟩ := hsh
    split at h
    · rename_i hl
      have hev := evs (a := a) he hg c.args.toList hl
      refine enter f _ _ hev h ?_
      obtain ⟨callee, cargs, argTypes⟩ := c
      simp only at hcal
      subst hcal
      simp only [execOp, resolve, Act.eval, Deferred.ofValue, Sem.run_bind, Sem.run_pure, Result.andThen_ok, invoke]
      congr 2
      apply Array.ext'
      simp
    · cases h
  | callv fo args =>
    rw [hop] at h
    simp only [den1] at h
    obtain ⟨dst, op, ty, pos, after, guard⟩ := o
    have hsh : ∃ c t, op = .call c ∧ c.callee = .value (.tmp t) ∧ fo = .tmp t ∧ args = c.args.toList.map (compO C.G) := by
      simp only at hop
      cases op <;> simp only [compOp] at hop <;> (try (first | (cases hop; done) | ((repeat' split at hop) <;> (cases hop; done))))
      · rename_i fn _ _; cases fn <;> cases hop
      · rename_i r; cases r <;> cases hop
      · rename_i ok; cases ok
        · cases hop
        · simp only at hop; split at hop <;> cases hop
      · rename_i c
        obtain ⟨callee, cargs, argTypes⟩ := c
        simp only at hop
        split at hop
        · unfold compB at hop; (repeat' split at hop) <;> cases hop
        · cases hop
        · rename_i t; cases hop; exact ⟨_, t, rfl, rfl, rfl, rfl⟩
        · cases hop
    obtain ⟨c, t, rfl, hcal, rfl, rfl⟩ := hsh
    split at h
    · rename_i g first cap hf
      split at h
      · rename_i hl
        have hev := evs (a := a) he hg c.args.toList hl
        have hfc := ev (a := a) (o := .tmp t) he hg (by simpa [compO] using hf) rfl
        obtain ⟨y, z, hy, hz, hfe⟩ := conc_fn_inv hfc
        refine enter g _ _ (concs_append (concs_append hy hev) hz) h ?_
        obtain ⟨callee, cargs, argTypes⟩ := c
        simp only at hcal
        subst hcal
        simp only [execOp, resolve, hfe, Deferred.ofValue, Sem.run_bind, Sem.run_pure, Result.andThen_ok, invoke]
        congr 2
        apply Array.ext'
        simp
      · cases h
    · cases h
  | _ => rw [hop] at h; rw [hop] at plain; exact plain (by simpa only [den1] using h)
end Go.Og

set_option linter.unusedSimpArgs false
namespace Go.Og
variable {P : Program} {G : Nat → Bool} {E : List (Nat × Blk)} {D : Den} {C : Cx}

/-- The post holds of whatever the evaluator's answer stands for. -/
def After (C : Cx) (nt : Nat) (σ σ' : H) (e' : Env) (R : Ren) (K : Act → World → Prop) : Prop :=
  ∀ R' a' w', Ext σ.next R R' → σ.next ≤ σ'.next → Rel C R' σ' w' → EnvOk R' e' a'.tmps → nt ≤ a'.tmps.size → a'.defers = [] → K a' w'

theorem After.step {nt : Nat} {σ σ1 σ' : H} {e' : Env} {R R1 : Ren} {K : Act → World → Prop} (h : After C nt σ σ' e' R K) (he : Ext σ.next R R1) (hn : σ.next ≤ σ1.next) : After C nt σ1 σ' e' R1 K :=
  fun R' a' w' h1 h2 h3 h4 h5 h6 => h R' a' w' (he.trans h1 hn) (Nat.le_trans hn h2) h3 h4 h5 h6
theorem dstOk_mono {n m : Nat} {d : Option Nat} (h : dstOk n d = true) (hnm : n ≤ m) : dstOk m d = true := by
  cases d with
  | none => rfl
  | some d => simp only [dstOk, Nat.blt_eq] at h ⊢; omega

theorem wanted_ok {R : Ren} {e : Env} {a : Act} (he : EnvOk R e a.tmps) {ops : Array Oper} {o : Oper} {g : Option (Nat × Bool)} (hg : compG ops o.guard = some g) {b : Bool} (h : wantedA e g = some b) :
    Region.wanted o (yielded ops a.tmps) = b := by
  unfold compG at hg
  cases hgd : o.guard with
  | none =>
    rw [hgd] at hg
    simp only [Option.some.injEq] at hg
    subst hg
    simp only [wantedA, Option.some.injEq] at h
    subst h
    simp [Region.wanted, hgd]
  | some jb =>
    obtain ⟨j, want⟩ := jb
    rw [hgd] at hg
    simp only at hg
    split at hg
    · rename_i t ht
      simp only [Option.some.injEq] at hg
      subst hg
      simp only [wantedA] at h
      split at h
      · rename_i c hc
        simp only [Option.some.injEq] at h
        subst h
        obtain ⟨x, hx, hcx⟩ := he.get hc rfl
        cases hcx
        simp [Region.wanted, hgd, yielded, ht, hx]
      · rename_i hc
        simp only [Option.some.injEq] at h
        subst h
        obtain ⟨x, hx, hcx⟩ := he.get hc rfl
        cases hcx
        simp [Region.wanted, hgd, yielded, ht, hx]
      · cases h
    · cases hg

theorem denOps_ok (hD : ∀ f, SoundFn P E G f (D f)) (hE : C.E = E) (hG : C.G = G) (nt : Nat) (ops : Array Oper) (Q : Exit → Act → World → Prop) :
    ∀ (l : List Oper) (e : Env) (σ : H) (e' : Env) (σ' : H) (R : Ren) (a : Act) (w : World), denOps E D (l.map (compOper P G nt ops)) e σ = some (e', σ') →
      Rel C R σ w → EnvOk R e a.tmps → nt ≤ a.tmps.size → a.defers = [] → After C nt σ σ' e' R (Q .normal) → wpList P ops Q l a w
  | [], e, σ, e', σ', R, a, w, h, hrel, he, hsz, hd, hQ => by
    simp only [List.map_nil, denOps, Option.some.injEq, Prod.mk.injEq] at h
    obtain ⟨rfl, rfl⟩ := h
    exact hQ R a w (Ext.refl _ _) (Nat.le_refl _) hrel he hsz hd
  | o :: l, e, σ, e', σ', R, a, w, h, hrel, he, hsz, hd, hQ => by
    simp only [List.map_cons, denOps] at h
    by_cases hgd : ∃ g, compG ops o.guard = some g ∧ dstOk nt o.dst = true
    · obtain ⟨g, hg, hdst⟩ := hgd
      have hco : compOper P G nt ops o = ⟨o.dst, compOp P G o.op, g⟩ := by simp only [compOper, hg, hdst]
      rw [hco] at h
      simp only at h
      have hdst' := dstOk_mono hdst hsz
      cases hw : wantedA e g with
      | none => rw [hw] at h; cases h
      | some b =>
        rw [hw] at h
        have hwant := wanted_ok he hg hw
        cases b with
        | false =>
          simp only at h
          unfold wpList
          rw [if_neg (by rw [hwant]; simp)]
          exact denOps_ok hD hE hG nt ops Q l _ σ e' σ' R _ w h hrel (he.put hdst' (.inr rfl)) (by rw [size_put]; exact hsz) (by rw [defers_put]; exact hd) hQ
        | true =>
          simp only at h
          cases h1 : den1 E D (compOp P G o.op) e σ with
          | none => rw [h1] at h; cases h
          | some q =>
            obtain ⟨v, σ1⟩ := q
            rw [h1] at h
            simp only at h
            unfold wpList
            rw [if_pos hwant]
            left
            refine den1_ok hD hE hG hrel he o h1 _ _ (fun R1 w1 x he1 hn1 hrel1 hv => ?_)
            exact denOps_ok hD hE hG nt ops Q l _ σ1 e' σ' R1 _ w1 h hrel1 ((he.mono (he1.le hrel.fresh)).put hdst' hv) (by rw [size_put]; exact hsz) (by rw [defers_put]; exact hd) (hQ.step he1 hn1)
    · have hco : compOper P G nt ops o = ⟨o.dst, .bad, none⟩ := by
        unfold compOper
        split
        · rename_i g h1 h2; exact (hgd ⟨g, h1, h2⟩).elim
        · rfl
      rw [hco] at h
      simp [wantedA, den1, aop, AOp.cls, aopP] at h

/-- What the evaluator of regions whose order is open has to bear. -/
def SoundW (P : Program) (E : List (Nat × Blk)) (G : Nat → Bool) (W : DrawFn) : Prop :=
  ∀ (C : Cx), C.E = E → C.G = G → ∀ (nt : Nat) (id : Nat) (ops : Array Oper) (e : Env) (σ : H) (e' : Env) (σ' : H), planOk ops (ops.toList.map (compOper P G nt ops)) (planOf ops) = true → W (ops.toList.map (compOper P G nt ops)) (planOf ops) e σ = some (e', σ') →
    ∀ (R : Ren) (a : Act) (w : World) (Q : Exit → Act → World → Prop), Rel C R σ w → EnvOk R e a.tmps → nt ≤ a.tmps.size → a.defers = [] → After C nt σ σ' e' R (Q .normal) → (Code.region id ops true).wp P Q a w

def AX.exit' : AX → Exit
  | .normal => .normal
  | .exit id => .exit id
  | .ret => .ret

theorem den_ok (hD : ∀ f, SoundFn P E G f (D f)) {W : DrawFn} (hW : SoundW P E G W) (hE : C.E = E) (hG : C.G = G) (N nt : Nat) :
    ∀ (ac : AC) (c : Code), ac.strip = compC P G nt c → ∀ (e : Env) (σ : H) (x : AX) (e' : Env) (σ' : H), den E D W N ac e σ = some (x, e', σ') →
      ∀ (R : Ren) (a : Act) (w : World) (Q : Exit → Act → World → Prop), Rel C R σ w → EnvOk R e a.tmps → nt ≤ a.tmps.size → a.defers = [] → After C nt σ σ' e' R (Q x.exit') → c.wp P Q a w := by
  intro ac
  induction ac with
  | bad => intro c _ e σ x e' σ' h; cases h
  | keep ts ac ih =>
    intro c hs e σ x e' σ' h R a w Q hrel he hsz hd hQ
    exact ih c hs _ σ x e' σ' h R a w Q hrel (he.restr ts) hsz hd hQ
  | skip =>
    intro c hs e σ x e' σ' h R a w Q hrel he hsz hd hQ
    cases h
    cases c <;> simp only [AC.strip, compC] at hs <;> (try (cases hs; done))
    · exact wp_skip (hQ R a w (Ext.refl _ _) (Nat.le_refl _) hrel he hsz hd)
    · rename_i i o d; cases d <;> (first | (cases hs; done) | (simp only [compC] at hs; split at hs <;> cases hs))
  | exit id =>
    intro c hs e σ x e' σ' h R a w Q hrel he hsz hd hQ
    cases h
    cases c <;> simp only [AC.strip, compC] at hs <;> (try (cases hs; done))
    · rename_i i o d; cases d <;> (first | (cases hs; done) | (simp only [compC] at hs; split at hs <;> cases hs))
    · cases hs; exact wp_exit (hQ R a w (Ext.refl _ _) (Nat.le_refl _) hrel he hsz hd)
  | ret =>
    intro c hs e σ x e' σ' h R a w Q hrel he hsz hd hQ
    cases h
    cases c <;> simp only [AC.strip, compC] at hs <;> (try (cases hs; done))
    · rename_i i o d; cases d <;> (first | (cases hs; done) | (simp only [compC] at hs; split at hs <;> cases hs))
    · exact wp_ret (hQ R a w (Ext.refl _ _) (Nat.le_refl _) hrel he hsz hd)
  | region ops =>
    intro c hs e σ x e' σ' h R a w Q hrel he hsz hd hQ
    cases c <;> simp only [AC.strip, compC] at hs <;> (try (cases hs; done))
    rename_i i o d
    cases d
    case true => simp only [compC] at hs; split at hs <;> cases hs
    simp only [compC] at hs
    cases hs
    simp only [den] at h
    cases h1 : denOps E D (o.toList.map (compOper P G nt o)) e σ with
    | none => rw [h1] at h; cases h
    | some q =>
      obtain ⟨e1, σ1⟩ := q
      rw [h1] at h
      cases h
      exact wp_region_list (denOps_ok hD hE hG nt o Q o.toList e σ _ _ R a w h1 hrel he hsz hd hQ)
  | draw ops ms =>
    intro c hs e σ x e' σ' h R a w Q hrel he hsz hd hQ
    cases c <;> simp only [AC.strip, compC] at hs <;> (try (cases hs; done))
    rename_i i o d
    cases d <;> simp only [compC] at hs <;> (try (cases hs; done))
    split at hs
    case isFalse => cases hs
    rename_i hplan
    cases hs
    simp only [den] at h
    cases h1 : W (o.toList.map (compOper P G nt o)) (planOf o) e σ with
    | none => rw [h1] at h; cases h
    | some q =>
      obtain ⟨e1, σ1⟩ := q
      rw [h1] at h
      cases h
      exact hW C hE hG nt i o e σ _ _ hplan h1 R a w Q hrel he hsz hd hQ
  | seq p q ihp ihq =>
    intro c hs e σ x e' σ' h R a w Q hrel he hsz hd hQ
    cases c <;> simp only [AC.strip, compC] at hs <;> (try (cases hs; done))
    · rename_i i o d; cases d <;> (first | (cases hs; done) | (simp only [compC] at hs; split at hs <;> cases hs))
    rename_i c1 c2
    simp only [AC.seq.injEq] at hs
    simp only [den] at h
    cases h1 : den E D W N p e σ with
    | none => rw [h1] at h; cases h
    | some r =>
      obtain ⟨x1, e1, σ1⟩ := r
      rw [h1] at h
      refine wp_seq (ihp c1 hs.1 e σ x1 e1 σ1 h1 R a w _ hrel he hsz hd ?_)
      cases x1 with
      | normal =>
        simp only at h
        intro R1 a1 w1 hx1 hn1 hrel1 he1 hs1 hd1
        exact ihq c2 hs.2 e1 σ1 x e' σ' h R1 a1 w1 Q hrel1 he1 hs1 hd1 (hQ.step hx1 hn1)
      | exit id => cases h; exact hQ
      | ret => cases h; exact hQ
  | cond o p q ihp ihq =>
    intro c hs e σ x e' σ' h R a w Q hrel he hsz hd hQ
    cases c <;> simp only [AC.strip, compC] at hs <;> (try (cases hs; done))
    · rename_i i o d; cases d <;> (first | (cases hs; done) | (simp only [compC] at hs; split at hs <;> cases hs))
    rename_i co c1 c2
    simp only [AC.cond.injEq] at hs
    obtain ⟨rfl, h1, h2⟩ := hs
    simp only [den] at h
    split at h
    · rename_i ho
      exact wp_cond_true (ev_bool he (hG ▸ hrel.globOk) ho) (ihp c1 h1 e σ x e' σ' h R a w Q hrel he hsz hd hQ)
    · rename_i ho
      exact wp_cond_false (ev_bool he (hG ▸ hrel.globOk) ho) (ihq c2 h2 e σ x e' σ' h R a w Q hrel he hsz hd hQ)
    · cases h
  | block id p ih =>
    intro c hs e σ x e' σ' h R a w Q hrel he hsz hd hQ
    cases c <;> simp only [AC.strip, compC] at hs <;> (try (cases hs; done))
    · rename_i i o d; cases d <;> (first | (cases hs; done) | (simp only [compC] at hs; split at hs <;> cases hs))
    rename_i i c1
    simp only [AC.block.injEq] at hs
    obtain ⟨rfl, hs⟩ := hs
    simp only [den] at h
    cases h1 : den E D W N p e σ with
    | none => rw [h1] at h; cases h
    | some r =>
      obtain ⟨x1, e1, σ1⟩ := r
      rw [h1] at h
      refine wp_block (ih c1 hs e σ x1 e1 σ1 h1 R a w _ hrel he hsz hd ?_)
      cases x1 with
      | normal => cases h; exact hQ
      | ret => cases h; exact hQ
      | exit j =>
        simp only at h
        split at h
        · rename_i hj
          simp only [Nat.beq_eq] at hj
          cases h
          intro R1 a1 w1 h1 h2 h3 h4 h5 h6
          show Exit.inBlock id Q (.exit j) a1 w1
          simp only [Exit.inBlock]
          rw [if_pos hj]
          exact hQ R1 a1 w1 h1 h2 h3 h4 h5 h6
        · rename_i hj
          simp only [Nat.beq_eq] at hj
          cases h
          intro R1 a1 w1 h1 h2 h3 h4 h5 h6
          show Exit.inBlock id Q (.exit j) a1 w1
          simp only [Exit.inBlock]
          rw [if_neg hj]
          exact hQ R1 a1 w1 h1 h2 h3 h4 h5 h6
  | loop p ih =>
    intro c hs e σ x e' σ' h R a w Q hrel he hsz hd hQ
    cases c <;> simp only [AC.strip, compC] at hs <;> (try (cases hs; done))
    · rename_i i o d; cases d <;> (first | (cases hs; done) | (simp only [compC] at hs; split at hs <;> cases hs))
    rename_i c1
    simp only [AC.loop.injEq] at hs
    simp only [den] at h
    have key : ∀ (n : Nat) (e : Env) (σ : H) (R : Ren) (a : Act) (w : World), iter (den E D W N p) n e σ = some (x, e', σ') → Rel C R σ w → EnvOk R e a.tmps → nt ≤ a.tmps.size → a.defers = [] →
        After C nt σ σ' e' R (Q x.exit') → Code.rounds P c1 Q n a w := by
      intro n
      induction n with
      | zero => intro e σ R a w h; cases h
      | succ n ihn =>
        intro e σ R a w h hrel he hsz hd hQ
        simp only [iter] at h
        cases h1 : den E D W N p e σ with
        | none => rw [h1] at h; cases h
        | some r =>
          obtain ⟨x1, e1, σ1⟩ := r
          rw [h1] at h
          rw [rounds_succ]
          refine ih c1 hs e σ x1 e1 σ1 h1 R a w _ hrel he hsz hd ?_
          cases x1 with
          | normal =>
            simp only at h
            intro R1 a1 w1 hx1 hn1 hrel1 he1 hs1 hd1
            exact ihn e1 σ1 R1 a1 w1 h hrel1 he1 hs1 hd1 (hQ.step hx1 hn1)
          | exit id => cases h; exact hQ
          | ret => cases h; exact hQ
    exact wp_loop_rounds N (key N e σ R a w h hrel he hsz hd hQ)

/-! ### functions -/
theorem resV_ok {R : Ren} {σ : H} {w : World} {e : Env} {tmps : Array Value} (hrel : Rel C R σ w) (he : EnvOk R e tmps) : ∀ (rs : List ResultVar) (as : List AR) (l : List V), compRs P rs = some as → resV C.E e σ as = some l →
    ∃ xs, concs R l = some xs ∧ (rs.mapM (m := Sem) fun
      | .tmp t => pure (tmps.getD t undef)
      | .cell a t => do loadVar t (← asAddr (tmps.getD a undef))).run P w = .ok xs w
  | [], as, l, hc, h => by
    simp only [compRs, Option.some.injEq] at hc; subst hc
    simp only [resV, Option.some.injEq] at h; subst h
    exact ⟨[], rfl, rfl⟩
  | r :: rs, as, l, hc, h => by
    have hget : ∀ (t : Nat) (v : V), getE e t = v → v.live = true → conc R v = some (tmps.getD t undef) := by
      intro t v hv hl
      obtain ⟨x, hx, hc⟩ := he.get hv hl
      rw [hc, Array.getD_eq_getD_getElem?, hx]; rfl
    simp only [compRs] at hc
    cases hr : compR P r with
    | none => rw [hr] at hc; cases hc
    | some ar =>
      cases hrs : compRs P rs with
      | none => rw [hr, hrs] at hc; cases hc
      | some as' =>
        rw [hr, hrs] at hc
        simp only [Option.some.injEq] at hc
        subst hc
        cases r with
        | tmp t =>
          simp only [compR, Option.some.injEq] at hr
          subst hr
          simp only [resV] at h
          split at h
          · rename_i l' hl hrest
            cases h
            obtain ⟨xs, h1, h2⟩ := resV_ok hrel he rs as' l' hrs hrest
            refine ⟨_, concs_cons.2 ⟨_, _, hget t _ rfl hl, h1, rfl⟩, ?_⟩
            rw [List.mapM_cons]
            simp only [Sem.run_bind, Sem.run_pure, Result.andThen_ok, h2]
          · cases h
        | cell t ty =>
          simp only [compR] at hr
          cases hs : shapeOf P ty with
          | none => rw [hs] at hr; cases hr
          | some n =>
            rw [hs] at hr
            simp only [Option.some.injEq] at hr
            subst hr
            simp only [resV] at h
            split at h
            · rename_i b off l' hb hrest
              obtain ⟨j, hj, hev⟩ := conc_ptr_inv (hget t _ hb rfl)
              obtain ⟨xs, h1, h2⟩ := resV_ok hrel he rs as' l' hrs hrest
              obtain ⟨hagg, hsz⟩ := run_isAgg (P := P) hs w
              split at h
              · split at h
                · rename_i cs hrd
                  split at h
                  · rename_i v hk
                    cases h
                    obtain ⟨i, arr, el, fr, hi, hblk, hold⟩ := hrel.read hrd
                    rw [hj] at hi; cases hi
                    obtain ⟨y, hy, _, hay⟩ := hold off v hk
                    refine ⟨_, concs_cons.2 ⟨_, _, hy, h1, rfl⟩, ?_⟩
                    have hcell : w.cell? ⟨j.blk, j.shift + off, none⟩ = some y := by rw [cell_at hblk]; exact hay
                    have hla : (do loadVar ty (← asAddr (tmps.getD t undef)) : Sem Value).run P w = .ok y w := by
                      simp only [Sem.run_bind, hev, asAddr, Sem.run_pure, Result.andThen_ok, loadVar, hagg, Option.isSome_none, Bool.false_eq_true, if_false, run_load, hcell]
                    rw [List.mapM_cons]
                    refine (Sem.run_bind P w _ _).trans ?_
                    refine (congrArg (fun r => Result.andThen r _) hla).trans ?_
                    simp only [Sem.run_bind, h2, Sem.run_pure, Result.andThen_ok]
                  · cases h
                · cases h
              · rename_i n
                split at h
                · rename_i cs hrd
                  cases h
                  obtain ⟨i, ys, hi, hyc, _, hlen, _, hcell⟩ := hrel.readN hrd
                  rw [hj] at hi; cases hi
                  refine ⟨_, concs_cons.2 ⟨_, _, conc_agg_mk hyc, h1, rfl⟩, ?_⟩
                  have hl := run_loadCells_list (P := P) w ⟨j.blk, j.shift + off, none⟩ ys hcell
                  rw [hlen] at hl
                  have hla : (do loadVar ty (← asAddr (tmps.getD t undef)) : Sem Value).run P w = .ok (.agg ys.toArray) w := by
                    simp only [Sem.run_bind, hev, asAddr, Sem.run_pure, Result.andThen_ok, loadVar, hagg, Option.isSome_some, if_true, hsz n rfl, hl]
                  rw [List.mapM_cons]
                  refine (Sem.run_bind P w _ _).trans ?_
                  refine (congrArg (fun r => Result.andThen r _) hla).trans ?_
                  simp only [Sem.run_bind, h2, Sem.run_pure, Result.andThen_ok]
                · cases h
            · cases h

theorem freeAll_ok {R : Ren} {w : World} : ∀ (ts : List Nat) (e : Env) (σ : H), Rel C R σ w → Rel C R (freeAll ts e σ) w ∧ (freeAll ts e σ).next = σ.next
  | [], _, _, h => ⟨h, rfl⟩
  | t :: ts, e, σ, h => by
    simp only [freeAll]
    split
    · obtain ⟨h1, h2⟩ := freeAll_ok ts e _ (h.del _)
      exact ⟨h1, h2⟩
    · exact freeAll_ok ts e σ h

theorem oneV_ok {R : Ren} {l : List V} {xs : List Value} (h : concs R l = some xs) : conc R (oneV l) = some (if h : xs.toArray.size = 1 then xs.toArray[0] else .tuple xs.toArray) := by
  match l, xs, h with
  | [], xs, h => simp only [concs, Option.some.injEq] at h; subst h; rfl
  | [v], xs, h =>
    obtain ⟨x, ys, hx, hy, rfl⟩ := concs_cons.1 h
    simp only [concs, Option.some.injEq] at hy; subst hy
    simp [oneV, hx]
  | u :: v :: l, xs, h =>
    have hl := concs_length h
    rw [dif_neg (by simp at hl ⊢; omega)]
    exact conc_tup_mk h

/-- THE GREAT THEOREM: a function of the model answers what the evaluator answers, if those that it calls do. -/
theorem runFn_ok (hD : ∀ f, SoundFn P E G f (D f)) {W : DrawFn} (hW : SoundW P E G W) (N : Nat) {f : FuncId} {fn : Func} (hf : P.funcs[f]? = some fn) {af af' : AFn} (hc : compF P G fn = some af') (hs : af.strip = af')
    (hok : callOk P f = true) : SoundFn P E G f (runFn E D W N af) := by
  intro C hE hG R σ w args xs v σ' h hrel hxs
  refine ⟨hok, ?_⟩
  unfold compF at hc
  cases hb : fn.body with
  | none => rw [hb] at hc; cases hc
  | some c =>
    cases hr : compRs P fn.results.toList with
    | none => rw [hb, hr] at hc; cases hc
    | some rs =>
      rw [hb, hr] at hc
      simp only [Option.some.injEq] at hc
      rw [← hs] at hc
      obtain ⟨nt, res, frees, body⟩ := af
      simp only [AFn.strip, AFn.mk.injEq] at hc
      obtain ⟨rfl, rfl, _, hbody⟩ := hc
      unfold runFn at h
      simp only at h
      have hlen := concs_length hxs
      refine calls_of_wp hf hb ?_
      have hsz : fn.ntmps ≤ (xs.toArray ++ Array.replicate (fn.ntmps - xs.toArray.size) undef).size := by simp; omega
      have harg : ∀ (l : List V) (ys : List Value) (k : Nat), concs R l = some ys → ∀ (t : Nat) (v : V), look (argE k l) t = some v → ∃ y, k ≤ t ∧ ys[t - k]? = some y ∧ conc R v = some y := by
        intro l
        induction l with
        | nil => intro ys k _ t v h; simp [argE, look] at h
        | cons u l ih =>
          intro ys k hc t v h
          obtain ⟨y, zs, hy, hz, rfl⟩ := concs_cons.1 hc
          simp only [argE, look] at h
          by_cases hk : k = t
          · subst hk
            rw [if_pos (by simp)] at h
            cases h
            exact ⟨y, Nat.le_refl _, by simp, hy⟩
          · rw [if_neg (by simpa using hk)] at h
            obtain ⟨q, h1, h2, h3⟩ := ih zs (k + 1) hz t v h
            exact ⟨q, by omega, by rw [show t - k = (t - (k + 1)) + 1 by omega, List.getElem?_cons_succ]; exact h2, h3⟩
      have he0 : EnvOk R (argE 0 args) (xs.toArray ++ Array.replicate (fn.ntmps - xs.toArray.size) undef) := by
        refine ⟨fun k u hk => ?_⟩
        obtain ⟨y, _, h2, h3⟩ := harg args xs 0 hxs k u hk
        refine .inr ⟨y, ?_, h3⟩
        rw [Nat.sub_zero] at h2
        have hlt : k < xs.length := by
          rcases Nat.lt_or_ge k xs.length with h | h
          · exact h
          · rw [List.getElem?_eq_none h] at h2; cases h2
        rw [Array.getElem?_append_left (by simpa using hlt)]
        simpa using h2
      have fin : ∀ {x : AX} {e : Env} {σ1 : H}, den E D W N body (argE 0 args) σ = some (x, e, σ1) → (x = .normal ∨ x = .ret) →
          (match resV E e σ1 rs with | some l => some (oneV l, freeAll frees e σ1) | none => none) = some (v, σ') →
          c.wp P (bodyPost P fn fun en w' => ∃ R' x, Ext σ.next R R' ∧ σ.next ≤ σ'.next ∧ Rel C R' σ' w' ∧ conc R' v = some x ∧ en = .returned x)
            { tmps := xs.toArray ++ Array.replicate (fn.ntmps - xs.toArray.size) undef, defers := [] } w := by
        intro x e σ1 hden hx hres
        cases hrv : resV E e σ1 rs with
        | none => rw [hrv] at hres; cases hres
        | some l =>
          rw [hrv] at hres
          simp only [Option.some.injEq, Prod.mk.injEq] at hres
          obtain ⟨rfl, rfl⟩ := hres
          refine den_ok hD hW hE hG N fn.ntmps body c hbody.symm _ σ x e σ1 hden R _ w _ hrel he0 hsz rfl ?_
          intro R1 a1 w1 hx1 hn1 hrel1 he1 _ hd1
          obtain ⟨ys, hyc, hyrun⟩ := resV_ok (P := P) hrel1 he1 fn.results.toList _ l hr (hE ▸ hrv)
          obtain ⟨hfree, hfn⟩ := freeAll_ok frees e σ1 hrel1
          have hres : (results fn a1.tmps).run P w1 = .ok (if h : ys.toArray.size = 1 then ys.toArray[0] else .tuple ys.toArray) w1 := by
            unfold results
            refine (Sem.run_bind P w1 _ _).trans ?_
            rw [Array.mapM_eq_mapM_toList, Sem.run_map]
            refine (congrArg (fun r => Result.andThen (Result.andThen r _) _) hyrun).trans rfl
          have hR : ∃ R' x, Ext σ.next R R' ∧ σ.next ≤ (freeAll frees e σ1).next ∧ Rel C R' (freeAll frees e σ1) w1 ∧ conc R' (oneV l) = some x ∧
              Ending.returned (if h : ys.toArray.size = 1 then ys.toArray[0] else .tuple ys.toArray) = .returned x :=
            ⟨R1, _, hx1, by rw [hfn]; exact hn1, hfree, oneV_ok hyc, rfl⟩
          rcases hx with rfl | rfl
          · exact ⟨hd1, _, hres, hR⟩
          · exact ⟨hd1, _, hres, hR⟩
      split at h
      · cases h
      · rename_i x e σ1 hne hden
        refine fin hden ?_ h
        cases x with
        | normal => exact .inl rfl
        | ret => exact .inr rfl
        | exit id => exact (hne id rfl).elim
      · cases h
end Go.Og
