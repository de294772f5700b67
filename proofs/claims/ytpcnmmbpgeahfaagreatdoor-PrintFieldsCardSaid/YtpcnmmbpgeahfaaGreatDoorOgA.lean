/- Texts as one number: byte i is the i-th one from below. Plain Lean, no program. -/
import Derived.Tactics2
import Derived.Laws.Append
import Derived.Laws.Slices
import Derived.Laws.Build
import Derived.Laws.Pointers
import Derived.Laws.Small
import Derived.Laws.StructEq
import Derived.WalkSpells
namespace Go.Og

structure BS where
  len : Nat
  val : Nat
  deriving DecidableEq, Inhabited

def BS.get (s : BS) (i : Nat) : Nat := Nat.mod (Nat.shiftRight s.val (Nat.mul 8 i)) 256
def BS.toList (s : BS) : List UInt8 := (List.range s.len).map fun i => UInt8.ofNat (s.get i)
def BS.low (s : BS) : Nat := Nat.mod s.val (Nat.pow 2 (Nat.mul 8 s.len))
def BS.beq (a b : BS) : Bool := Nat.beq a.len b.len && Nat.beq a.low b.low
def BS.cat (a b : BS) : BS := ⟨Nat.add a.len b.len, Nat.lor a.low (Nat.shiftLeft b.val (Nat.mul 8 a.len))⟩
def BS.sub (s : BS) (lo hi : Nat) : BS := ⟨Nat.sub hi lo, Nat.mod (Nat.shiftRight s.val (Nat.mul 8 lo)) (Nat.pow 2 (Nat.mul 8 (Nat.sub hi lo)))⟩
def BS.ofList : List UInt8 → BS
  | [] => ⟨0, 0⟩
  | c :: l => ⟨Nat.succ (BS.ofList l).len, Nat.add c.toNat (Nat.mul 256 (BS.ofList l).val)⟩
def BS.size (s : BS) : Nat := s.len

theorem BS.get_lt (s : BS) (i : Nat) : s.get i < 256 := Nat.mod_lt _ (by decide)
theorem BS.length_toList (s : BS) : s.toList.length = s.len := by simp [BS.toList]
theorem BS.getElem?_toList (s : BS) (i : Nat) : s.toList[i]? = if i < s.len then some (UInt8.ofNat (s.get i)) else none := by
  simp only [BS.toList, List.getElem?_map]
  by_cases h : i < s.len
  · rw [if_pos h, List.getElem?_range h]; rfl
  · rw [if_neg h, List.getElem?_eq_none (by simpa using h)]; rfl
theorem BS.ofNat_inj {a b : Nat} (ha : a < 256) (hb : b < 256) (h : UInt8.ofNat a = UInt8.ofNat b) : a = b := by
  have := congrArg UInt8.toNat h
  simp only [UInt8.toNat_ofNat'] at this
  omega

theorem BS.testBit_get (s : BS) (i j : Nat) : (s.get i).testBit j = (decide (j < 8) && s.val.testBit (8 * i + j)) := by
  show Nat.testBit ((s.val >>> (8 * i)) % (2 ^ 8)) j = _
  rw [Nat.testBit_mod_two_pow, Nat.testBit_shiftRight]
theorem BS.testBit_low (s : BS) (j : Nat) : s.low.testBit j = (decide (j < 8 * s.len) && s.val.testBit j) := by
  show Nat.testBit (s.val % (2 ^ (8 * s.len))) j = _
  rw [Nat.testBit_mod_two_pow]

theorem BS.ext_get {a b : BS} (hl : a.len = b.len) (h : ∀ i, i < a.len → a.get i = b.get i) : a.toList = b.toList := by
  apply List.ext_getElem?
  intro i
  rw [BS.getElem?_toList, BS.getElem?_toList, hl]
  by_cases hi : i < b.len
  · rw [if_pos hi, if_pos hi, h i (by omega)]
  · rw [if_neg hi, if_neg hi]
theorem BS.get_eq {a b : BS} (h : a.toList = b.toList) : a.len = b.len ∧ ∀ i, i < a.len → a.get i = b.get i := by
  have hl : a.len = b.len := by rw [← BS.length_toList, h, BS.length_toList]
  refine ⟨hl, fun i hi => ?_⟩
  have := congrArg (·[i]?) h
  simp only [BS.getElem?_toList] at this
  rw [if_pos hi, if_pos (by omega)] at this
  exact BS.ofNat_inj (a.get_lt i) (b.get_lt i) (Option.some.inj this)
theorem BS.low_eq {a b : BS} (hl : a.len = b.len) : a.low = b.low ↔ ∀ i, i < a.len → a.get i = b.get i := by
  constructor
  · intro h i hi
    apply Nat.eq_of_testBit_eq
    intro j
    rw [BS.testBit_get, BS.testBit_get]
    by_cases hj : j < 8
    · have := congrArg (fun n => n.testBit (8 * i + j)) h
      simp only [BS.testBit_low] at this
      have h1 : (8 * i + j < 8 * a.len) := by omega
      have h2 : (8 * i + j < 8 * b.len) := by omega
      simpa [hj, h1, h2] using this
    · simp [hj]
  · intro h
    apply Nat.eq_of_testBit_eq
    intro j
    rw [BS.testBit_low, BS.testBit_low, ← hl]
    by_cases hj : j < 8 * a.len
    · have := congrArg (fun n => n.testBit (j % 8)) (h (j / 8) (by omega))
      simp only [BS.testBit_get] at this
      have h1 : j % 8 < 8 := by omega
      rw [Nat.div_add_mod] at this
      simpa [h1, hj] using this
    · simp [hj]
theorem BS.beq_iff {a b : BS} : a.beq b = true ↔ a.toList = b.toList := by
  simp only [BS.beq, Bool.and_eq_true, Nat.beq_eq]
  constructor
  · rintro ⟨hl, h⟩; exact BS.ext_get hl ((BS.low_eq hl).1 h)
  · intro h
    obtain ⟨hl, hg⟩ := BS.get_eq h
    exact ⟨hl, (BS.low_eq hl).2 hg⟩
theorem BS.beq_eq (a b : BS) : a.beq b = decide (a.toList = b.toList) := by
  by_cases h : a.toList = b.toList
  · rw [BS.beq_iff.2 h]; simp [h]
  · rw [decide_eq_false h, Bool.eq_false_iff]; exact fun hh => h (BS.beq_iff.1 hh)

theorem BS.get_cat_left {a b : BS} {i : Nat} (h : i < a.len) : (a.cat b).get i = a.get i := by
  apply Nat.eq_of_testBit_eq
  intro j
  rw [BS.testBit_get, BS.testBit_get]
  by_cases hj : j < 8
  · show (decide (j < 8) && Nat.testBit (a.low ||| b.val <<< (8 * a.len)) (8 * i + j)) = _
    rw [Nat.testBit_or, BS.testBit_low, Nat.testBit_shiftLeft]
    have h1 : 8 * i + j < 8 * a.len := by omega
    have h2 : ¬ (8 * a.len ≤ 8 * i + j) := by omega
    simp [h1, h2]
  · simp [hj]
theorem BS.get_cat_right {a b : BS} {i : Nat} (h : a.len ≤ i) : (a.cat b).get i = b.get (i - a.len) := by
  apply Nat.eq_of_testBit_eq
  intro j
  rw [BS.testBit_get, BS.testBit_get]
  by_cases hj : j < 8
  · show (decide (j < 8) && Nat.testBit (a.low ||| b.val <<< (8 * a.len)) (8 * i + j)) = _
    rw [Nat.testBit_or, BS.testBit_low, Nat.testBit_shiftLeft]
    have h1 : ¬ (8 * i + j < 8 * a.len) := by omega
    have h2 : 8 * i + j ≥ 8 * a.len := by omega
    have h3 : 8 * i + j - 8 * a.len = 8 * (i - a.len) + j := by omega
    simp [h1, h2, h3]
  · simp [hj]
theorem BS.toList_cat (a b : BS) : (a.cat b).toList = a.toList ++ b.toList := by
  apply List.ext_getElem?
  intro i
  rw [List.getElem?_append, BS.length_toList, BS.getElem?_toList, BS.getElem?_toList, BS.getElem?_toList]
  have hl : (a.cat b).len = a.len + b.len := rfl
  rw [hl]
  by_cases h : i < a.len
  · rw [if_pos h, if_pos (by omega), if_pos h, BS.get_cat_left h]
  · rw [if_neg h]
    by_cases h2 : i < a.len + b.len
    · rw [if_pos h2, if_pos (by omega), BS.get_cat_right (by omega)]
    · rw [if_neg h2, if_neg (by omega)]
theorem BS.get_sub {s : BS} {lo hi i : Nat} (h : i < hi - lo) : (s.sub lo hi).get i = s.get (lo + i) := by
  apply Nat.eq_of_testBit_eq
  intro j
  rw [BS.testBit_get, BS.testBit_get]
  by_cases hj : j < 8
  · show (decide (j < 8) && Nat.testBit ((s.val >>> (8 * lo)) % (2 ^ (8 * (hi - lo)))) (8 * i + j)) = _
    rw [Nat.testBit_mod_two_pow, Nat.testBit_shiftRight]
    have h1 : 8 * i + j < 8 * (hi - lo) := by omega
    have h2 : 8 * lo + (8 * i + j) = 8 * (lo + i) + j := by omega
    simp [h1, h2]
  · simp [hj]
theorem BS.toList_sub {s : BS} {lo hi : Nat} (h : hi ≤ s.len) : (s.sub lo hi).toList = (s.toList.drop lo).take (hi - lo) := by
  apply List.ext_getElem?
  intro i
  rw [List.getElem?_take, List.getElem?_drop, BS.getElem?_toList, BS.getElem?_toList]
  have hl : (s.sub lo hi).len = hi - lo := rfl
  rw [hl]
  by_cases h1 : i < hi - lo
  · rw [if_pos h1, if_pos h1, if_pos (by omega), BS.get_sub h1]
  · rw [if_neg h1, if_neg h1]
theorem BS.len_ofList : ∀ l : List UInt8, (BS.ofList l).len = l.length
  | [] => rfl
  | _ :: l => by simp [BS.ofList, BS.len_ofList l]
theorem BS.get_ofList : ∀ (l : List UInt8) (i : Nat) (c : UInt8), l[i]? = some c → (BS.ofList l).get i = c.toNat
  | [], i, c, h => by simp at h
  | d :: l, 0, c, h => by
    simp at h; subst h
    show ((d.toNat + 256 * (BS.ofList l).val) >>> (8 * 0)) % 256 = _
    have := d.toNat_lt
    rw [Nat.mul_zero, Nat.shiftRight_zero]
    omega
  | d :: l, i + 1, c, h => by
    simp at h
    rw [← BS.get_ofList l i c h]
    show ((d.toNat + 256 * (BS.ofList l).val) >>> (8 * (i + 1))) % 256 = ((BS.ofList l).val >>> (8 * i)) % 256
    have hd := d.toNat_lt
    rw [Nat.mul_succ, Nat.add_comm (8 * i) 8, Nat.shiftRight_add]
    have : (d.toNat + 256 * (BS.ofList l).val) >>> 8 = (BS.ofList l).val := by
      rw [Nat.shiftRight_eq_div_pow]; omega
    rw [this]
theorem BS.toList_ofList (l : List UInt8) : (BS.ofList l).toList = l := by
  apply List.ext_getElem?
  intro i
  rw [BS.getElem?_toList, BS.len_ofList]
  by_cases h : i < l.length
  · rw [if_pos h]
    have h2 : l[i]? = some l[i] := List.getElem?_eq_getElem h
    rw [BS.get_ofList l i _ h2, h2]
    simp
  · rw [if_neg h, List.getElem?_eq_none (by omega)]
end Go.Og

namespace Go.Og

/-- What is known of where an abstract block lies: the model's block, how far in, where its spare room ends (in the block's own cells). -/
structure BI where
  blk : Nat
  shift : Nat
  endc : Nat

/-- A slice's capacity: known; or whatever its block has room for, in elements of so many cells. -/
inductive Cap where
  | ex (c : Nat)
  | op (esz : Nat)
  deriving DecidableEq, Inhabited

abbrev Ren := Nat → Option BI

/-- Abstract values. 'sl b o n (op e)': a slice whose capacity is what its block has room for. 'sle b o k e': the empty slice [k:k] of such a one. 'dead': not known. -/
inductive V where
  | dead
  | bool (b : Bool)
  | int (k : IntKind) (n : Int)
  | str (s : BS)
  | nilp
  | ptr (b off : Nat)
  | nils
  | sl (b off len : Nat) (cap : Cap)
  | sle (b off k esz : Nat)
  | nilm
  | mp (b : Nat)
  | fn (f : FuncId) (first captured : List V)
  | nilf
  | ifc (t : TypeId) (v : V)
  | nili
  | agg (l : List V)
  | tup (l : List V)
  deriving Inhabited

def BI.cap (i : BI) (esz off : Nat) : Nat := (i.endc - off) / esz

mutual
def conc (R : Ren) : V → Option Value
  | .dead => none
  | .bool b => some (.bool b)
  | .int k n => some (.int k n)
  | .str l => some (.string ⟨l.toList.toArray⟩)
  | .nilp => some (.pointer none)
  | .ptr b off => (R b).map fun i => .pointer (some ⟨i.blk, i.shift + off, none⟩)
  | .nils => some (.slice none 0 0)
  | .sl b off len (.ex c) => (R b).map fun i => .slice (some ⟨i.blk, i.shift + off, none⟩) len c
  | .sl b off len (.op e) => (R b).bind fun i => if len ≤ i.cap e off then some (.slice (some ⟨i.blk, i.shift + off, none⟩) len (i.cap e off)) else none
  | .sle b off k e => (R b).bind fun i => if k ≤ i.cap e off then some (.slice (some (if i.cap e off = k then ⟨i.blk, i.shift + off, none⟩ else (⟨i.blk, i.shift + off, none⟩ : Addr).add (k * e))) 0 (i.cap e off - k)) else none
  | .nilm => some (.map none)
  | .mp b => (R b).map fun i => .map (some i.blk)
  | .fn f a c => match concs R a, concs R c with
    | some x, some y => some (.func (.func f) x.toArray y.toArray)
    | _, _ => none
  | .nilf => some .nilFunc
  | .ifc t v => match conc R v with
    | some x => some (.iface t x)
    | none => none
  | .nili => some .nilIface
  | .agg l => match concs R l with
    | some x => some (.agg x.toArray)
    | none => none
  | .tup l => match concs R l with
    | some x => some (.tuple x.toArray)
    | none => none
def concs (R : Ren) : List V → Option (List Value)
  | [] => some []
  | v :: l => match conc R v, concs R l with
    | some x, some y => some (x :: y)
    | _, _ => none
end

/-- R' knows all that R knows. -/
def Le (R R' : Ren) : Prop := ∀ b i, R b = some i → R' b = some i
theorem Le.refl (R : Ren) : Le R R := fun _ _ h => h
theorem Le.trans {R S T : Ren} (h : Le R S) (k : Le S T) : Le R T := fun b i x => k b i (h b i x)

mutual
theorem conc_mono {R R' : Ren} (h : Le R R') : ∀ (v : V) (x : Value), conc R v = some x → conc R' v = some x
  | .dead, x, e => by simp [conc] at e
  | .bool b, x, e => by simpa [conc] using e
  | .int k n, x, e => by simpa [conc] using e
  | .str l, x, e => by simpa [conc] using e
  | .nilp, x, e => by simpa [conc] using e
  | .ptr b off, x, e => by
    simp only [conc, Option.map_eq_some_iff] at e ⊢
    obtain ⟨i, hi, rfl⟩ := e; exact ⟨i, h b i hi, rfl⟩
  | .nils, x, e => by simpa [conc] using e
  | .sl b off len (.ex c), x, e => by
    simp only [conc, Option.map_eq_some_iff] at e ⊢
    obtain ⟨i, hi, rfl⟩ := e; exact ⟨i, h b i hi, rfl⟩
  | .sl b off len (.op _), x, e => by
    simp only [conc, Option.bind_eq_some_iff] at e ⊢
    obtain ⟨i, hi, e⟩ := e; exact ⟨i, h b i hi, e⟩
  | .sle b off k _, x, e => by
    simp only [conc, Option.bind_eq_some_iff] at e ⊢
    obtain ⟨i, hi, e⟩ := e; exact ⟨i, h b i hi, e⟩
  | .nilm, x, e => by simpa [conc] using e
  | .mp b, x, e => by
    simp only [conc, Option.map_eq_some_iff] at e ⊢
    obtain ⟨i, hi, rfl⟩ := e; exact ⟨i, h b i hi, rfl⟩
  | .fn f a c, x, e => by
    simp only [conc] at e ⊢
    cases ha : concs R a <;> simp only [ha] at e
    · cases e
    · cases hc : concs R c <;> simp only [hc] at e
      · cases e
      · rw [concs_mono h a _ ha, concs_mono h c _ hc]; exact e
  | .nilf, x, e => by simpa [conc] using e
  | .ifc t v, x, e => by
    simp only [conc] at e ⊢
    cases hv : conc R v <;> simp only [hv] at e
    · cases e
    · rw [conc_mono h v _ hv]; exact e
  | .nili, x, e => by simpa [conc] using e
  | .agg l, x, e => by
    simp only [conc] at e ⊢
    cases hl : concs R l <;> simp only [hl] at e
    · cases e
    · rw [concs_mono h l _ hl]; exact e
  | .tup l, x, e => by
    simp only [conc] at e ⊢
    cases hl : concs R l <;> simp only [hl] at e
    · cases e
    · rw [concs_mono h l _ hl]; exact e
theorem concs_mono {R R' : Ren} (h : Le R R') : ∀ (l : List V) (x : List Value), concs R l = some x → concs R' l = some x
  | [], x, e => by simpa [concs] using e
  | v :: l, x, e => by
    simp only [concs] at e ⊢
    cases hv : conc R v <;> simp only [hv] at e
    · cases e
    · cases hl : concs R l <;> simp only [hl] at e
      · cases e
      · rw [conc_mono h v _ hv, concs_mono h l _ hl]; exact e
end

theorem concs_length {R : Ren} : ∀ {l : List V} {x : List Value}, concs R l = some x → x.length = l.length
  | [], x, e => by simp only [concs, Option.some.injEq] at e; subst e; rfl
  | v :: l, x, e => by
    simp only [concs] at e
    cases hv : conc R v <;> simp only [hv] at e
    · cases e
    · cases hl : concs R l <;> simp only [hl] at e
      · cases e
      · cases e; simp [concs_length hl]
theorem concs_cons {R : Ren} {v : V} {l : List V} {x : List Value} : concs R (v :: l) = some x ↔ ∃ a b, conc R v = some a ∧ concs R l = some b ∧ x = a :: b := by
  simp only [concs]
  cases hv : conc R v <;> cases hl : concs R l <;> simp [eq_comm]
theorem concs_get {R : Ren} : ∀ {l : List V} {x : List Value}, concs R l = some x → ∀ {k : Nat} {v : V}, l[k]? = some v → ∃ a, conc R v = some a ∧ x[k]? = some a
  | [], x, e, k, v, h => by simp at h
  | v :: l, x, e, k, u, h => by
    obtain ⟨a, b, ha, hb, rfl⟩ := concs_cons.1 e
    cases k with
    | zero => simp at h; subst h; exact ⟨a, ha, by simp⟩
    | succ k => simp at h; obtain ⟨c, hc, hk⟩ := concs_get hb h; exact ⟨c, hc, by simpa using hk⟩
theorem concs_of_get {R : Ren} : ∀ {l : List V} {x : List Value}, x.length = l.length → (∀ (k : Nat) (v : V), l[k]? = some v → ∃ a, conc R v = some a ∧ x[k]? = some a) → concs R l = some x
  | [], x, e, h => by simp at e; subst e; rfl
  | v :: l, [], e, h => by simp at e
  | v :: l, a :: x, e, h => by
    obtain ⟨b, hb, hx⟩ := h 0 v (by simp)
    simp at hx; subst hx
    refine concs_cons.2 ⟨a, x, hb, concs_of_get (by simpa using e) (fun k u hu => ?_), rfl⟩
    obtain ⟨c, hc, hk⟩ := h (k + 1) u (by simpa using hu)
    exact ⟨c, hc, by simpa using hk⟩
theorem concs_append {R : Ren} {l m : List V} {x y : List Value} (h : concs R l = some x) (k : concs R m = some y) : concs R (l ++ m) = some (x ++ y) := by
  induction l generalizing x with
  | nil => simp only [concs, Option.some.injEq] at h; subst h; simpa using k
  | cons v l ih => obtain ⟨a, b, ha, hb, rfl⟩ := concs_cons.1 h; exact concs_cons.2 ⟨a, b ++ y, ha, ih hb, rfl⟩
theorem concs_take {R : Ren} {l : List V} {x : List Value} (h : concs R l = some x) (n : Nat) : concs R (l.take n) = some (x.take n) := by
  induction l generalizing x n with
  | nil => simp only [concs, Option.some.injEq] at h; subst h; simp [concs]
  | cons v l ih =>
    obtain ⟨a, b, ha, hb, rfl⟩ := concs_cons.1 h
    cases n with
    | zero => simp [concs]
    | succ n => exact concs_cons.2 ⟨a, b.take n, ha, ih hb n, rfl⟩
theorem concs_drop {R : Ren} {l : List V} {x : List Value} (h : concs R l = some x) (n : Nat) : concs R (l.drop n) = some (x.drop n) := by
  induction l generalizing x n with
  | nil => simp only [concs, Option.some.injEq] at h; subst h; simp [concs]
  | cons v l ih =>
    obtain ⟨a, b, ha, hb, rfl⟩ := concs_cons.1 h
    cases n with
    | zero => simpa using h
    | succ n => simpa using ih hb n
theorem concs_replicate {R : Ren} {v : V} {x : Value} (h : conc R v = some x) (n : Nat) : concs R (List.replicate n v) = some (List.replicate n x) := by
  induction n with
  | zero => rfl
  | succ n ih => exact concs_cons.2 ⟨x, _, h, ih, rfl⟩
theorem concs_set {R : Ren} {l : List V} {x : List Value} {v : V} {a : Value} (h : concs R l = some x) (hv : conc R v = some a) (n : Nat) : concs R (l.set n v) = some (x.set n a) := by
  induction l generalizing x n with
  | nil => simp only [concs, Option.some.injEq] at h; subst h; simp [concs]
  | cons u l ih =>
    obtain ⟨c, b, hc, hb, rfl⟩ := concs_cons.1 h
    cases n with
    | zero => exact concs_cons.2 ⟨a, b, hv, hb, rfl⟩
    | succ n => exact concs_cons.2 ⟨c, b.set n a, hc, ih hb n, rfl⟩

/-- A value of one cell. -/
def V.one : V → Bool
  | .agg _ | .tup _ | .dead => false
  | _ => true
/-- The cells of a value. -/
def V.cells : V → List V
  | .agg l => l
  | v => [v]

theorem conc_agg {R : Ren} {l : List V} {a : Value} (h : conc R (.agg l) = some a) : ∃ x, concs R l = some x ∧ a = .agg x.toArray := by
  simp only [conc] at h
  cases hl : concs R l <;> simp only [hl] at h
  · cases h
  · cases h; exact ⟨_, rfl, rfl⟩
theorem conc_tup {R : Ren} {l : List V} {a : Value} (h : conc R (.tup l) = some a) : ∃ x, concs R l = some x ∧ a = .tuple x.toArray := by
  simp only [conc] at h
  cases hl : concs R l <;> simp only [hl] at h
  · cases h
  · cases h; exact ⟨_, rfl, rfl⟩
theorem conc_agg_mk {R : Ren} {l : List V} {x : List Value} (h : concs R l = some x) : conc R (.agg l) = some (.agg x.toArray) := by simp only [conc, h]
theorem conc_tup_mk {R : Ren} {l : List V} {x : List Value} (h : concs R l = some x) : conc R (.tup l) = some (.tuple x.toArray) := by simp only [conc, h]

/-- A value of one cell stands for a value of one cell. -/
theorem conc_one {R : Ren} {v : V} {a : Value} (hv : v.one = true) (h : conc R v = some a) : a.cells = #[a] ∧ a.oneCell' = true := by
  cases v with
  | dead => cases hv
  | agg l => cases hv
  | tup l => cases hv
  | bool b => cases h; exact ⟨rfl, rfl⟩
  | int k n => cases h; exact ⟨rfl, rfl⟩
  | str l => cases h; exact ⟨rfl, rfl⟩
  | nilp => cases h; exact ⟨rfl, rfl⟩
  | nils => cases h; exact ⟨rfl, rfl⟩
  | nilm => cases h; exact ⟨rfl, rfl⟩
  | nilf => cases h; exact ⟨rfl, rfl⟩
  | nili => cases h; exact ⟨rfl, rfl⟩
  | ptr b off =>
    simp only [conc, Option.map_eq_some_iff] at h
    obtain ⟨i, _, rfl⟩ := h; exact ⟨rfl, rfl⟩
  | mp b =>
    simp only [conc, Option.map_eq_some_iff] at h
    obtain ⟨i, _, rfl⟩ := h; exact ⟨rfl, rfl⟩
  | sl b off len cap =>
    cases cap with
    | ex c =>
      simp only [conc, Option.map_eq_some_iff] at h
      obtain ⟨i, _, rfl⟩ := h; exact ⟨rfl, rfl⟩
    | op e =>
      simp only [conc, Option.bind_eq_some_iff] at h
      obtain ⟨i, _, h⟩ := h
      by_cases hc : len ≤ i.cap e off
      · rw [if_pos hc] at h; cases h; exact ⟨rfl, rfl⟩
      · rw [if_neg hc] at h; cases h
  | sle b off k e =>
    simp only [conc, Option.bind_eq_some_iff] at h
    obtain ⟨i, _, h⟩ := h
    by_cases hc : k ≤ i.cap e off
    · rw [if_pos hc] at h; cases h; exact ⟨rfl, rfl⟩
    · rw [if_neg hc] at h; cases h
  | ifc t v =>
    simp only [conc] at h
    cases hx : conc R v <;> simp only [hx] at h
    · cases h
    · cases h; exact ⟨rfl, rfl⟩
  | fn f x y =>
    simp only [conc] at h
    cases hx : concs R x <;> simp only [hx] at h
    · cases h
    · cases hy : concs R y <;> simp only [hy] at h
      · cases h
      · cases h; exact ⟨rfl, rfl⟩

theorem conc_cells {R : Ren} {v : V} {a : Value} (h : conc R v = some a) : concs R v.cells = some a.cells.toList := by
  cases v with
  | dead => cases h
  | agg l => obtain ⟨x, hx, rfl⟩ := conc_agg h; simpa [V.cells, Value.cells] using hx
  | tup l =>
    obtain ⟨x, hx, rfl⟩ := conc_tup h
    exact concs_cons.2 ⟨_, [], h, rfl, rfl⟩
  | _ =>
    rw [(conc_one rfl h).1]
    exact concs_cons.2 ⟨a, [], h, rfl, rfl⟩

end Go.Og

namespace Go.Og

inductive Blk where
  | cells (l : List V)
  | map (l : List (V × V))
  | siter (s : List UInt8) (pos : Nat)
  | unit (t : TypeId)
  deriving Inhabited

def look {α : Type} : List (Nat × α) → Nat → Option α
  | [], _ => none
  | (k, b) :: l, id => if Nat.beq k id then some b else look l id
/-- The block of that number has another content. -/
def repl {α : Type} : List (Nat × α) → Nat → α → List (Nat × α)
  | [], _, _ => []
  | (k, b) :: l, id, c => if Nat.beq k id then (k, c) :: l else (k, b) :: repl l id c
/-- Without the block of that number. -/
def drop {α : Type} : List (Nat × α) → Nat → List (Nat × α)
  | [], _ => []
  | (k, b) :: l, id => if Nat.beq k id then drop l id else (k, b) :: drop l id

theorem look_repl {α : Type} (l : List (Nat × α)) (id id' : Nat) (c : α) : look (repl l id c) id' = if id = id' then (look l id').map (fun _ => c) else look l id' := by
  induction l with
  | nil => simp [repl, look]
  | cons p l ih =>
    obtain ⟨k, b⟩ := p
    by_cases h : k = id
    · subst h
      by_cases h' : k = id'
      · simp [repl, look, h']
      · simp [repl, look, h']
    · simp only [repl, look, Nat.beq_eq, h, if_false, ih]
      by_cases h' : k = id'
      · subst h'; simp [Ne.symm h]
      · simp [h']
theorem look_drop {α : Type} (l : List (Nat × α)) (id id' : Nat) : look (drop l id) id' = if id = id' then none else look l id' := by
  induction l with
  | nil => simp [drop, look]
  | cons p l ih =>
    obtain ⟨k, b⟩ := p
    by_cases h : k = id
    · subst h
      simp only [drop, Nat.beq_eq, if_true, ih, look]
      by_cases h' : k = id' <;> simp [h']
    · simp only [drop, look, Nat.beq_eq, h, if_false, ih]
      by_cases h' : k = id'
      · subst h'; simp [Ne.symm h]
      · simp [h']

structure H where
  next : Nat
  bl : List (Nat × Blk)
  deriving Inhabited

def H.add (σ : H) (b : Blk) : H := ⟨σ.next + 1, (σ.next, b) :: σ.bl⟩
def H.set (σ : H) (id : Nat) (b : Blk) : H := ⟨σ.next, repl σ.bl id b⟩
def H.del (σ : H) (id : Nat) : H := ⟨σ.next, drop σ.bl id⟩

/-- The cells l stand in an array from a place on. -/
def Holds (R : Ren) (s : Nat) (l : List V) (arr : Array Value) : Prop :=
  ∀ (k : Nat) (v : V), l[k]? = some v → ∃ a, conc R v = some a ∧ a.oneCell' = true ∧ arr[s + k]? = some a
theorem Holds.mono {R R' : Ren} {s : Nat} {l : List V} {arr : Array Value} (h : Holds R s l arr) (hle : Le R R') : Holds R' s l arr := fun k v hk =>
  let ⟨a, ha, h1, h2⟩ := h k v hk
  ⟨a, conc_mono hle v a ha, h1, h2⟩

def MapHolds (R : Ren) : List (V × V) → List MapEntry → Prop
  | [], [] => True
  | (k, v) :: l, e :: es => conc R k = some e.key ∧ conc R v = some e.val ∧ MapHolds R l es
  | _, _ => False
theorem MapHolds.mono {R R' : Ren} (hle : Le R R') : ∀ {l : List (V × V)} {es : List MapEntry}, MapHolds R l es → MapHolds R' l es
  | [], [], _ => trivial
  | (_, _) :: _, _ :: _, ⟨h1, h2, h3⟩ => ⟨conc_mono hle _ _ h1, conc_mono hle _ _ h2, MapHolds.mono hle h3⟩
  | [], _ :: _, h => h.elim
  | _ :: _, [], h => h.elim

/-- A block of the call's own. -/
def OwnOk (R : Ren) (i : BI) (b : Blk) (w : World) : Prop :=
  match b with
  | .cells l => ∃ arr el lo hi, w.heap[i.blk]? = some (.cells arr el (lo, hi)) ∧ Holds R i.shift l arr ∧ i.shift + i.endc ≤ arr.size ∧ l.length ≤ i.endc ∧
      (∀ off, off < arr.size → ¬ (lo ≤ off ∧ off < hi))
  | .map l => ∃ es clock, w.heap[i.blk]? = some (.map es clock) ∧ MapHolds R l es.toList
  | .siter s p => w.heap[i.blk]? = some (.stringIter ⟨s.toArray⟩ p)
  | .unit t => ∃ fr, w.heap[i.blk]? = some (.cells #[] t fr)
/-- A block that was there before, and stays. -/
def ExtOk (R : Ren) (i : BI) (b : Blk) (w : World) : Prop :=
  match b with
  | .cells l => ∃ arr el fr, w.heap[i.blk]? = some (.cells arr el fr) ∧ Holds R i.shift l arr
  | _ => False

theorem OwnOk.mono {R R' : Ren} {i : BI} {b : Blk} {w w' : World} (h : OwnOk R i b w) (hle : Le R R') (hw : w'.heap[i.blk]? = w.heap[i.blk]?) : OwnOk R' i b w' := by
  cases b with
  | cells l =>
    obtain ⟨arr, el, lo, hi, h1, h2, h3, h4, h5⟩ := h
    exact ⟨arr, el, lo, hi, hw.trans h1, h2.mono hle, h3, h4, h5⟩
  | map l =>
    obtain ⟨es, c, h1, h2⟩ := h
    exact ⟨es, c, hw.trans h1, h2.mono hle⟩
  | siter s p => exact hw.trans h
  | unit t => obtain ⟨fr, h1⟩ := h; exact ⟨fr, hw.trans h1⟩
theorem ExtOk.mono {R R' : Ren} {i : BI} {b : Blk} {w w' : World} (h : ExtOk R i b w) (hle : Le R R') (hw : w'.heap[i.blk]? = w.heap[i.blk]?) : ExtOk R' i b w' := by
  cases b with
  | cells l =>
    obtain ⟨arr, el, fr, h1, h2⟩ := h
    exact ⟨arr, el, fr, hw.trans h1, h2.mono hle⟩
  | _ => exact h.elim
theorem OwnOk.lt {R : Ren} {i : BI} {b : Blk} {w : World} (h : OwnOk R i b w) : i.blk < w.heap.size := by
  have : ∃ o, w.heap[i.blk]? = some o := by
    cases b with
    | cells l => obtain ⟨arr, el, lo, hi, h1, _⟩ := h; exact ⟨_, h1⟩
    | map l => obtain ⟨es, c, h1, _⟩ := h; exact ⟨_, h1⟩
    | siter s p => exact ⟨_, h⟩
    | unit t => obtain ⟨fr, h1⟩ := h; exact ⟨_, h1⟩
  obtain ⟨o, ho⟩ := this
  rcases Nat.lt_or_ge i.blk w.heap.size with h | h
  · exact h
  · simp [Array.getElem?_eq_none h] at ho

/-- What stays fixed during a call: which blocks it may touch, the world at its start, the blocks that it may only read, the variables that it reads. -/
structure Cx where
  O : Nat → Prop
  w0 : World
  E : List (Nat × Blk)
  G : Nat → Bool

structure Rel (C : Cx) (R : Ren) (σ : H) (w : World) : Prop where
  fresh : ∀ id, σ.next ≤ id → R id = none
  own : ∀ id b, look σ.bl id = some b → ∃ i, R id = some i ∧ C.O i.blk ∧ OwnOk R i b w
  inj : ∀ id id' b b' i i', look σ.bl id = some b → look σ.bl id' = some b' → R id = some i → R id' = some i' → i.blk = i'.blk → id = id'
  ext : ∀ id b, look C.E id = some b → ∃ i, R id = some i ∧ ¬ C.O i.blk ∧ ExtOk R i b w
  glob : ∀ g, C.G g = true → ∃ i, R g = some i ∧ i.blk = g ∧ i.shift = 0
  fr : ∀ blk, ¬ C.O blk → w.heap[blk]? = C.w0.heap[blk]?
  size : C.w0.heap.size ≤ w.heap.size
  new : ∀ blk, C.w0.heap.size ≤ blk → C.O blk
  os : w.os = C.w0.os
  tape : w.tape = C.w0.tape
  output : w.output = C.w0.output

/-- R' is R, and what is new behind n. -/
def Ext (n : Nat) (R R' : Ren) : Prop := ∀ id, id < n → R' id = R id
theorem Ext.refl (n : Nat) (R : Ren) : Ext n R R := fun _ _ => rfl
theorem Ext.trans {n m : Nat} {R S T : Ren} (h : Ext n R S) (k : Ext m S T) (hn : n ≤ m) : Ext n R T := fun id hi => (k id (by omega)).trans (h id hi)
theorem Ext.le {n : Nat} {R R' : Ren} (h : Ext n R R') (hf : ∀ id, n ≤ id → R id = none) : Le R R' := fun id i hi => by
  rcases Nat.lt_or_ge id n with hl | hl
  · rw [h id hl]; exact hi
  · rw [hf id hl] at hi; cases hi

def upd (R : Ren) (id : Nat) (i : BI) : Ren := fun k => if k = id then some i else R k
theorem upd_same (R : Ren) (id : Nat) (i : BI) : upd R id i id = some i := by simp [upd]
theorem upd_other {R : Ren} {id k : Nat} {i : BI} (h : k ≠ id) : upd R id i k = R k := by simp [upd, h]
theorem upd_ext (R : Ren) (n : Nat) (i : BI) : Ext n R (upd R n i) := fun id hi => upd_other (by omega)

theorem Rel.next_of_own {C : Cx} {R : Ren} {σ : H} {w : World} (h : Rel C R σ w) {id : Nat} {b : Blk} (hb : look σ.bl id = some b) : id < σ.next := by
  rcases Nat.lt_or_ge id σ.next with hl | hl
  · exact hl
  · obtain ⟨i, hi, _⟩ := h.own id b hb
    rw [h.fresh id hl] at hi; cases hi

/-- The world has drawn: nothing else has turned. -/
theorem Rel.drawn {C : Cx} {R : Ren} {σ : H} {w : World} (h : Rel C R σ w) (d : Nat) : Rel C R σ { w with drawn := d } :=
  ⟨h.fresh, h.own, h.inj, h.ext, h.glob, h.fr, h.size, h.new, h.os, h.tape, h.output⟩

/-- w' has one block more. -/
structure NewBlk (w w' : World) : Prop where
  old : ∀ k, k < w.heap.size → w'.heap[k]? = w.heap[k]?
  size : w'.heap.size = w.heap.size + 1
  os : w'.os = w.os
  tape : w'.tape = w.tape
  output : w'.output = w.output
theorem NewBlk.of_alloc (w : World) (o : Obj) : NewBlk w (w.alloc o) :=
  ⟨fun k hk => by show (w.heap.push o)[k]? = _; rw [Array.getElem?_push, if_neg (by omega)], World.size_alloc w o, rfl, rfl, rfl⟩

/-- A new block. -/
theorem Rel.alloc {C : Cx} {R : Ren} {σ : H} {w w' : World} (h : Rel C R σ w) (hn : NewBlk w w') (b : Blk) (i : BI) (hi : i.blk = w.heap.size)
    (hb : OwnOk (upd R σ.next i) i b w') : Rel C (upd R σ.next i) (σ.add b) w' := by
  have hle : Le R (upd R σ.next i) := (upd_ext R σ.next i).le h.fresh
  have hold := hn.old
  have hO : C.O w.heap.size := h.new _ h.size
  refine ⟨?_, ?_, ?_, ?_, ?_, ?_, ?_, h.new, hn.os.trans h.os, hn.tape.trans h.tape, hn.output.trans h.output⟩
  · intro id hid
    have hid' : σ.next + 1 ≤ id := hid
    rw [upd_other (by omega)]; exact h.fresh id (by omega)
  · intro id c hc
    by_cases he : id = σ.next
    · subst he
      simp only [H.add, look, Nat.beq_eq, if_true, Option.some.injEq] at hc
      subst hc
      exact ⟨i, upd_same _ _ _, hi ▸ hO, hb⟩
    · simp only [H.add, look, Nat.beq_eq, Ne.symm he, if_false] at hc
      obtain ⟨j, hj, hOj, hok⟩ := h.own id c hc
      exact ⟨j, by rw [upd_other he]; exact hj, hOj, hok.mono hle (hold _ hok.lt)⟩
  · intro id id' c c' j j' hc hc' hj hj' hbl
    by_cases he : id = σ.next
    · by_cases he' : id' = σ.next
      · rw [he, he']
      · exfalso
        subst he
        rw [upd_same] at hj; cases hj
        simp only [H.add, look, Nat.beq_eq, Ne.symm he', if_false] at hc'
        rw [upd_other he'] at hj'
        obtain ⟨k, hk, _, hok⟩ := h.own id' c' hc'
        rw [hk] at hj'; cases hj'
        have := hok.lt
        omega
    · by_cases he' : id' = σ.next
      · exfalso
        subst he'
        rw [upd_same] at hj'; cases hj'
        simp only [H.add, look, Nat.beq_eq, Ne.symm he, if_false] at hc
        rw [upd_other he] at hj
        obtain ⟨k, hk, _, hok⟩ := h.own id c hc
        rw [hk] at hj; cases hj
        have := hok.lt
        omega
      · simp only [H.add, look, Nat.beq_eq, Ne.symm he, Ne.symm he', if_false] at hc hc'
        rw [upd_other he] at hj; rw [upd_other he'] at hj'
        exact h.inj id id' c c' j j' hc hc' hj hj' hbl
  · intro id c hc
    obtain ⟨j, hj, hno, hok⟩ := h.ext id c hc
    refine ⟨j, hle _ _ hj, hno, hok.mono hle (hold _ ?_)⟩
    rcases Nat.lt_or_ge j.blk w.heap.size with hl | hl
    · exact hl
    · exact absurd (h.new _ (Nat.le_trans h.size hl)) hno
  · intro g hg
    obtain ⟨j, hj, hb⟩ := h.glob g hg
    exact ⟨j, hle _ _ hj, hb⟩
  · intro blk hno
    rw [← h.fr blk hno]
    refine hold _ ?_
    rcases Nat.lt_or_ge blk w.heap.size with hl | hl
    · exact hl
    · exact absurd (h.new _ (Nat.le_trans h.size hl)) hno
  · rw [hn.size]; have := h.size; omega

/-- A block of the call's own has another content, in a world that is another one in that block alone. -/
theorem Rel.write {C : Cx} {R : Ren} {σ : H} {w w' : World} (h : Rel C R σ w) {id : Nat} {b c : Blk} {i : BI} (hb : look σ.bl id = some b) (hi : R id = some i)
    (hc : OwnOk R i c w') (hold : ∀ k, k ≠ i.blk → w'.heap[k]? = w.heap[k]?) (hsz : w'.heap.size = w.heap.size)
    (hos : w'.os = w.os) (htape : w'.tape = w.tape) (hout : w'.output = w.output) : Rel C R (σ.set id c) w' := by
  have hlook : ∀ k, look (σ.set id c).bl k = if id = k then (look σ.bl k).map (fun _ => c) else look σ.bl k := fun k => look_repl σ.bl id k c
  have hOi : C.O i.blk := by obtain ⟨j, hj, hO, _⟩ := h.own id b hb; rw [hi] at hj; cases hj; exact hO
  refine ⟨h.fresh, ?_, ?_, ?_, h.glob, ?_, ?_, h.new, hos.trans h.os, htape.trans h.tape, hout.trans h.output⟩
  · intro k d hd
    rw [hlook] at hd
    by_cases he : id = k
    · subst he
      rw [if_pos rfl, hb] at hd; cases hd
      exact ⟨i, hi, hOi, hc⟩
    · rw [if_neg he] at hd
      obtain ⟨j, hj, hO, hok⟩ := h.own k d hd
      refine ⟨j, hj, hO, hok.mono (Le.refl _) (hold _ fun hbl => he (h.inj id k b d i j hb hd hi hj hbl.symm))⟩
  · intro k k' d d' j j' hd hd' hj hj' hbl
    rw [hlook] at hd hd'
    have hs : ∀ m e, (if id = m then (look σ.bl m).map (fun _ => c) else look σ.bl m) = some e → ∃ f, look σ.bl m = some f := fun m e hm => by
      by_cases he : id = m
      · rw [if_pos he] at hm
        cases hl : look σ.bl m with
        | none => rw [hl] at hm; cases hm
        | some f => exact ⟨f, rfl⟩
      · rw [if_neg he] at hm; exact ⟨e, hm⟩
    obtain ⟨f, hf⟩ := hs k d hd
    obtain ⟨f', hf'⟩ := hs k' d' hd'
    exact h.inj k k' f f' j j' hf hf' hj hj' hbl
  · intro k d hd
    obtain ⟨j, hj, hn, hok⟩ := h.ext k d hd
    exact ⟨j, hj, hn, hok.mono (Le.refl _) (hold _ fun hbl => hn (hbl ▸ hOi))⟩
  · intro blk hn
    rw [← h.fr blk hn]
    exact hold _ fun hbl => hn (hbl ▸ hOi)
  · rw [hsz]; exact h.size

/-- A block is forgotten. -/
theorem Rel.del {C : Cx} {R : Ren} {σ : H} {w : World} (h : Rel C R σ w) (id : Nat) : Rel C R (σ.del id) w := by
  have hlook : ∀ k, look (σ.del id).bl k = if id = k then none else look σ.bl k := fun k => look_drop σ.bl id k
  have hs : ∀ k c, look (σ.del id).bl k = some c → look σ.bl k = some c := fun k c hk => by
    rw [hlook] at hk
    by_cases he : id = k
    · rw [if_pos he] at hk; cases hk
    · rwa [if_neg he] at hk
  exact ⟨h.fresh, fun k c hk => h.own k c (hs k c hk), fun k k' c c' i i' hk hk' => h.inj k k' c c' i i' (hs k c hk) (hs k' c' hk'), h.ext, h.glob, h.fr, h.size, h.new, h.os, h.tape, h.output⟩

/-- A block gets a new number, with other content, in a world that is another one in that block alone (append in place). -/
theorem Rel.rename {C : Cx} {R : Ren} {σ : H} {w w' : World} (h : Rel C R σ w) {id : Nat} {b c : Blk} {i : BI} (hb : look σ.bl id = some b) (hi : R id = some i)
    (hc : OwnOk (upd R σ.next i) i c w') (hold : ∀ k, k ≠ i.blk → w'.heap[k]? = w.heap[k]?) (hsz : w'.heap.size = w.heap.size)
    (hos : w'.os = w.os) (htape : w'.tape = w.tape) (hout : w'.output = w.output) : Rel C (upd R σ.next i) ((σ.del id).add c) w' := by
  have hle : Le R (upd R σ.next i) := (upd_ext R σ.next i).le h.fresh
  have hOi : C.O i.blk := by obtain ⟨j, hj, hO, _⟩ := h.own id b hb; rw [hi] at hj; cases hj; exact hO
  have hlook : ∀ k, look (σ.del id).bl k = if id = k then none else look σ.bl k := fun k => look_drop σ.bl id k
  have hs : ∀ k d, k ≠ σ.next → look ((σ.del id).add c).bl k = some d → id ≠ k ∧ look σ.bl k = some d := fun k d hk hd => by
    simp only [H.add, H.del, look, Nat.beq_eq, Ne.symm hk, if_false] at hd
    have hd' : look (σ.del id).bl k = some d := hd
    rw [hlook] at hd'
    by_cases he : id = k
    · rw [if_pos he] at hd'; cases hd'
    · rw [if_neg he] at hd'; exact ⟨he, hd'⟩
  refine ⟨?_, ?_, ?_, ?_, ?_, ?_, ?_, h.new, hos.trans h.os, htape.trans h.tape, hout.trans h.output⟩
  · intro k hk
    have hk' : σ.next + 1 ≤ k := hk
    rw [upd_other (by omega)]; exact h.fresh k (by omega)
  · intro k d hd
    by_cases he : k = σ.next
    · subst he
      simp only [H.add, H.del, look, Nat.beq_eq, if_true, Option.some.injEq] at hd
      subst hd
      exact ⟨i, upd_same _ _ _, hOi, hc⟩
    · obtain ⟨hne, hd'⟩ := hs k d he hd
      obtain ⟨j, hj, hO, hok⟩ := h.own k d hd'
      refine ⟨j, hle _ _ hj, hO, hok.mono hle (hold _ fun hbl => hne (h.inj id k b d i j hb hd' hi hj hbl.symm))⟩
  · intro k k' d d' j j' hd hd' hj hj' hbl
    by_cases he : k = σ.next
    · by_cases he' : k' = σ.next
      · rw [he, he']
      · exfalso
        subst he
        rw [upd_same] at hj; cases hj
        obtain ⟨hne, hd2⟩ := hs k' d' he' hd'
        rw [upd_other he'] at hj'
        exact hne (h.inj id k' b d' _ j' hb hd2 hi hj' hbl)
    · by_cases he' : k' = σ.next
      · exfalso
        subst he'
        rw [upd_same] at hj'; cases hj'
        obtain ⟨hne, hd2⟩ := hs k d he hd
        rw [upd_other he] at hj
        exact hne (h.inj id k b d _ j hb hd2 hi hj hbl.symm)
      · obtain ⟨_, hd2⟩ := hs k d he hd
        obtain ⟨_, hd2'⟩ := hs k' d' he' hd'
        rw [upd_other he] at hj; rw [upd_other he'] at hj'
        exact h.inj k k' d d' j j' hd2 hd2' hj hj' hbl
  · intro k d hd
    obtain ⟨j, hj, hn, hok⟩ := h.ext k d hd
    exact ⟨j, hle _ _ hj, hn, hok.mono hle (hold _ fun hbl => hn (hbl ▸ hOi))⟩
  · intro g hg
    obtain ⟨j, hj, hb⟩ := h.glob g hg
    exact ⟨j, hle _ _ hj, hb⟩
  · intro blk hn
    rw [← h.fr blk hn]
    exact hold _ fun hbl => hn (hbl ▸ hOi)
  · rw [hsz]; exact h.size

/-- The cells of a block. -/
def rd (E : List (Nat × Blk)) (σ : H) (id : Nat) : Option (List V) :=
  match look σ.bl id with
  | some (.cells l) => some l
  | some _ => none
  | none => match look E id with
    | some (.cells l) => some l
    | _ => none

theorem Rel.read {C : Cx} {R : Ren} {σ : H} {w : World} (h : Rel C R σ w) {id : Nat} {l : List V} (hl : rd C.E σ id = some l) :
    ∃ i arr el fr, R id = some i ∧ w.heap[i.blk]? = some (.cells arr el fr) ∧ Holds R i.shift l arr := by
  unfold rd at hl
  cases hb : look σ.bl id with
  | some b =>
    rw [hb] at hl
    obtain ⟨i, hi, _, hok⟩ := h.own id b hb
    cases b with
    | cells m => cases hl; obtain ⟨arr, el, lo, hi', h1, h2, _⟩ := hok; exact ⟨i, arr, el, _, hi, h1, h2⟩
    | map m => cases hl
    | siter s p => cases hl
    | unit t => cases hl
  | none =>
    rw [hb] at hl
    cases he : look C.E id with
    | none => rw [he] at hl; cases hl
    | some b =>
      rw [he] at hl
      obtain ⟨i, hi, _, hok⟩ := h.ext id b he
      cases b with
      | cells m => cases hl; obtain ⟨arr, el, fr, h1, h2⟩ := hok; exact ⟨i, arr, el, fr, hi, h1, h2⟩
      | map m => cases hl
      | siter s p => cases hl
      | unit t => cases hl

end Go.Og

namespace Go.Og

/-- An operand. -/
inductive AO where
  | tmp (i : Nat)
  | con (v : V)
  deriving Inhabited

/-- A cell of a struct that Go holds against another one. -/
inductive FK where
  | int | bool | str
  deriving DecidableEq, Inhabited

/-- How two values are held against each other that are no integers and no strings. 'flat': structs, by the places of their fields, each of one cell. -/
inductive ETag where
  | bool | ptr | slice | map | func
  | iface (lit : Bool)
  | flat (l : List (Nat × FK))
  | none
  deriving DecidableEq, Inhabited

inductive CTag where
  | toInt (k : IntKind)
  | same
  | toBytes (el : TypeId)
  | toStr
  | bad
  deriving DecidableEq, Inhabited

inductive AOp where
  | mov (x : AO)
  | pick (c a b : AO)
  | alloc (el : TypeId) (z : List V)
  | box (el : TypeId) (x : AO)
  | build (z : List V) (parts : List (Nat × Nat × AO))
  | buildSlice (el : TypeId) (n : Nat) (z : List V) (parts : List (Nat × Nat × AO))
  | load (n : Option Nat) (x : AO)
  | store (n : Nat) (x v : AO)
  | nilck (x : AO)
  | bin (op : BinOp) (t : ETag) (x y : AO)
  | un (op : UnOp) (x : AO)
  | conv (t : CTag) (x : AO)
  | mkifc (t : TypeId) (x : AO)
  | mkfn (f : FuncId) (first captured : List AO)
  | mkslice (el : TypeId) (esz bytes : Nat) (z : List V) (len cap : AO)
  | sliceStr (x : AO) (lo hi : Option AO)
  | sliceSl (esz : Nat) (x : AO) (lo hi mx : Option AO)
  | sliceArr (n esz : Nat) (x : AO) (lo hi mx : Option AO)
  | faddr (off : Nat) (x : AO)
  | field (off : Nat) (n : Option Nat) (x : AO)
  | iaddrS (esz : Nat) (x i : AO)
  | iaddrA (n esz : Nat) (x i : AO)
  | idxStr (x i : AO)
  | extract (i : Nat) (x : AO)
  | len (str : Bool) (x : AO)
  | lenC (n : Nat)
  | cap (x : AO)
  | append (el : TypeId) (esz bytes : Nat) (s x : AO)
  | copy (esz : Nat) (d s : AO)
  | min (x : AO) (l : List AO)
  | max (x : AO) (l : List AO)
  | call (f : FuncId) (args : List AO)
  | callv (f : AO) (args : List AO)
  | mkmap
  | lookup (t : ETag) (z : V) (m x : AO)
  | mapset (t : ETag) (m k v : AO)
  | alloc0 (el : TypeId)
  | box0 (el : TypeId) (x : AO)
  | load0 (x : AO)
  | store0 (x v : AO)
  | faddr0 (t : TypeId) (x : AO)
  | idxArr (n esz : Nat) (s : Option Nat) (x i : AO)
  | bad
  deriving Inhabited

structure AOper where
  dst : Option Nat
  op : AOp
  guard : Option (Nat × Bool)
  deriving Inhabited

/-- Of an operation of a region whose order is open: those that come before it in every order (as bits), and the temporaries that it looks at. -/
structure DP where
  anc : Nat
  looks : List Nat
  deriving Inhabited

inductive AC where
  | skip
  | region (ops : List AOper)
  | draw (ops : List AOper) (plan : List DP)
  | seq (a b : AC)
  | cond (c : AO) (a b : AC)
  | block (id : Nat) (c : AC)
  | loop (c : AC)
  | exit (id : Nat)
  | ret
  | keep (ts : List Nat) (c : AC)
  | bad
  deriving Inhabited

inductive AR where
  | tmp (t : Nat)
  | cell (t : Nat) (n : Option Nat)
  deriving Inhabited

structure AFn where
  ntmps : Nat
  results : List AR
  frees : List Nat
  body : AC
  deriving Inhabited

/-- What is known of the temporaries: the newest first. -/
abbrev Env := List (Nat × V)
def getE (e : Env) (t : Nat) : V :=
  match look e t with
  | some v => v
  | none => .dead

def opv (e : Env) : AO → V
  | .tmp i => getE e i
  | .con v => v
def opvs (e : Env) (l : List AO) : List V := l.map (opv e)
def opvo (e : Env) : Option AO → Option V
  | some x => some (opv e x)
  | none => none

/-- No operand is dead. -/
def V.live : V → Bool
  | .dead => false
  | _ => true

/-- l with cs laid over it from a place on. -/
def spl : List V → Nat → List V → List V
  | l, _, [] => l
  | [], _, _ :: _ => []
  | _ :: l, 0, c :: cs => c :: spl l 0 cs
  | a :: l, n + 1, c :: cs => a :: spl l n (c :: cs)

def fillA : List (Nat × Nat × V) → List V → Option (List V)
  | [], z => some z
  | (off, size, v) :: r, z =>
    if v.live && Nat.beq v.cells.length size && Nat.ble (off + size) z.length then fillA r (spl z off v.cells) else none
def parts (e : Env) (l : List (Nat × Nat × AO)) : List (Nat × Nat × V) := l.map fun (o, s, x) => (o, s, opv e x)

def allOne : List V → Bool
  | [] => true
  | v :: l => v.one && allOne l

def bi (b : Bool) : V := .bool b

def cmpInt (op : BinOp) (a b : Int) : Option Bool :=
  match op with
  | .eql => some (a == b)
  | .neq => some (a != b)
  | .lss => some (decide (a < b))
  | .leq => some (decide (a ≤ b))
  | .gtr => some (decide (a > b))
  | .geq => some (decide (a ≥ b))
  | _ => none
def arith (op : BinOp) (k : IntKind) (a b : Int) : Option Int :=
  match op with
  | .add => some (k.wrap (a + b))
  | .sub => some (k.wrap (a - b))
  | .mul => some (k.wrap (a * b))
  | .quo => if b = 0 then none else some (k.wrap (a.tdiv b))
  | .rem => if b = 0 then none else some (a.tmod b)
  | .and => some (k.wrap (BitVec.ofInt k.bits a &&& BitVec.ofInt k.bits b).toNat)
  | .or => some (k.wrap (BitVec.ofInt k.bits a ||| BitVec.ofInt k.bits b).toNat)
  | .xor => some (k.wrap (BitVec.ofInt k.bits a ^^^ BitVec.ofInt k.bits b).toNat)
  | .andNot => some (k.wrap (BitVec.ofInt k.bits a &&& ~~~BitVec.ofInt k.bits b).toNat)
  | _ => none
def shiftI (op : BinOp) (k : IntKind) (a b : Int) : Option Int :=
  if b < 0 then none else
  match op with
  | .shl => some (k.wrap (a * 2 ^ (Nat.min b.toNat k.bits)))
  | .shr => some (a.fdiv (2 ^ (Nat.min b.toNat k.bits)))
  | _ => none
def strOp (op : BinOp) (a b : BS) : Option V :=
  match op with
  | .add => match Nat.ble (Nat.add a.len b.len) 1000000000000 with
    | true => some (.str (a.cat b))
    | false => none
  | .eql => some (.bool (a.beq b))
  | .neq => some (.bool (not (a.beq b)))
  | .lss => some (.bool (Op.bytesLess a.toList b.toList))
  | .leq => some (.bool (Op.bytesLess a.toList b.toList || a.beq b))
  | .gtr => some (.bool (not (Op.bytesLess a.toList b.toList || a.beq b)))
  | .geq => some (.bool (not (Op.bytesLess a.toList b.toList)))
  | _ => none

def eqF (a b : Int) : Bool := match a, b with
  | .ofNat m, .ofNat n => Nat.beq m n
  | .negSucc m, .negSucc n => Nat.beq m n
  | _, _ => false
theorem eqF_eq (a b : Int) : eqF a b = (a == b) := by
  cases a <;> cases b <;> simp only [eqF] <;> (rw [Bool.eq_iff_iff]; simp [Nat.beq_eq]) <;> omega
def eqCell : FK → V → V → Option Bool
  | .int, .int k a, .int k' b => if k = k' then some (eqF a b) else none
  | .bool, .bool a, .bool b => some (a == b)
  | .str, .str a, .str b => some (a.beq b)
  | _, _, _ => none
def cellAt : List V → Nat → V
  | [], _ => .dead
  | v :: _, 0 => v
  | _ :: l, n + 1 => cellAt l n
def eqFlat : List (Nat × FK) → List V → List V → Option Bool
  | [], _, _ => some true
  | (o, k) :: r, xs, ys => match eqCell k (cellAt xs o) (cellAt ys o) with
    | some a => match eqFlat r xs ys with
      | some b => some (a && b)
      | none => none
    | none => none

/-- A map's keys. -/
def eqM : ETag → V → V → Option Bool
  | .flat l, .agg xs, .agg ys => eqFlat l xs ys
  | _, _, _ => none
def keyOk (t : ETag) (x : V) : Bool := match eqM t x x with
  | some _ => true
  | none => false
def findM (t : ETag) (k : V) : List (V × V) → Option (Option V)
  | [] => some none
  | (q, v) :: l => match eqM t k q with
    | some true => some (some v)
    | some false => findM t k l
    | none => none

def eqTag : ETag → V → V → Option Bool
  | .flat l, .agg xs, .agg ys => eqFlat l xs ys
  | .bool, .bool a, .bool b => some (a == b)
  | .ptr, .nilp, .nilp => some true
  | .ptr, .nilp, .ptr _ _ => some false
  | .ptr, .ptr _ _, .nilp => some false
  | .slice, .nils, .nils => some true
  | .slice, .nils, .sl _ _ _ _ => some false
  | .slice, .sl _ _ _ _, .nils => some false
  | .slice, .nils, .sle _ _ _ _ => some false
  | .slice, .sle _ _ _ _, .nils => some false
  | .map, .nilm, .nilm => some true
  | .map, .nilm, .mp _ => some false
  | .map, .mp _, .nilm => some false
  | .func, .nilf, .nilf => some true
  | .func, .nilf, .fn _ _ _ => some false
  | .func, .fn _ _ _, .nilf => some false
  | .iface true, .nili, .nili => some true
  | .iface _, .nili, .ifc _ _ => some false
  | .iface _, .ifc _ _, .nili => some false
  | _, _, _ => none

def binV (op : BinOp) (t : ETag) (x y : V) : Option V :=
  match x, y with
  | .int k a, .int k' b =>
    match op with
    | .shl | .shr => (shiftI op k a b).map (.int k)
    | .add | .sub | .mul | .quo | .rem | .and | .or | .xor | .andNot => if k = k' then (arith op k a b).map (.int k) else none
    | _ => if k = k' then (cmpInt op a b).map .bool else none
  | .str a, .str b => strOp op a b
  | x, y =>
    match op with
    | .eql => (eqTag t x y).map .bool
    | .neq => (eqTag t x y).map fun b => .bool !b
    | _ => none

def unV (op : UnOp) (x : V) : Option V :=
  match op, x with
  | .neg, .int k n => some (.int k (k.wrap (0 - n)))
  | .xor, .int k n => some (.int k (k.wrap (BitVec.ofInt k.bits (if k.signed then -1 else k.max) ^^^ BitVec.ofInt k.bits n).toNat))
  | .not, .bool b => some (.bool !b)
  | _, _ => none

def ints (l : List UInt8) : List V := l.map fun b => .int .u8 b.toNat
/-- The bytes that cells are. -/
def bytesOf : List V → Option (List UInt8)
  | [] => some []
  | .int .u8 n :: l => (bytesOf l).map (UInt8.ofNat n.toNat :: ·)
  | _ => none

/-- A part of a block. -/
def rdN (E : List (Nat × Blk)) (σ : H) (b off n : Nat) : Option (List V) :=
  match rd E σ b with
  | some l => if Nat.ble (off + n) l.length then some ((l.drop off).take n) else none
  | none => none

def V.isStr : V → Bool
  | .str _ => true
  | _ => false
/-- The elements that a slice, or a string, has (n of them). -/
def srcCells (E : List (Nat × Blk)) (σ : H) (esz : Nat) : V → Option (Nat × List V)
  | .nils => some (0, [])
  | .sle _ _ _ _ => some (0, [])
  | .sl b off len _ => (rdN E σ b off (len * esz)).map fun l => (len, l)
  | .str l => if esz = 1 then some (l.len, ints l.toList) else none
  | _ => none

def growable (need bytes : Nat) : Bool := Nat.ble (need * bytes) 140737488355328 && Nat.ble need 9223372036854775807

def appendV (E : List (Nat × Blk)) (esz bytes : Nat) (s x : V) (σ : H) : Option (V × H) :=
  match srcCells E σ esz x with
  | none => none
  | some (n, new) =>
    match s with
    | .nils =>
      if n = 0 then some (.nils, σ)
      else if growable n bytes then some (.sl σ.next 0 n (.op esz), σ.add (.cells new)) else none
    | .sl b off len (.ex c) =>
      if Nat.ble (len + n) c then
        if n = 0 then some (s, σ) else
        match look σ.bl b with
        | some (.cells l) => if Nat.ble (off + (len + n) * esz) l.length && allOne new then some (.sl b off (len + n) (.ex c), σ.set b (.cells (spl l (off + len * esz) new))) else none
        | _ => none
      else if growable (len + n) bytes then
        match rdN E σ b off (len * esz) with
        | some old => some (.sl σ.next 0 (len + n) (.op esz), σ.add (.cells (old ++ new)))
        | none => none
      else none
    | .sl b 0 len (.op e) =>
      if n = 0 then some (s, σ) else
      match look σ.bl b with
      | some (.cells l) =>
        if Nat.beq l.length (len * esz) && Nat.beq e esz && growable (len + n) bytes && allOne new then some (.sl σ.next 0 (len + n) (.op esz), (σ.del b).add (.cells (l ++ new))) else none
      | _ => none
    | .sl _ _ _ (.op _) => if n = 0 then some (s, σ) else none
    | _ => none

/-- A bound of a slice expression. -/
def bnd : Option V → Nat → Option Nat
  | none, d => some d
  | some (.int _ n), _ => if 0 ≤ n then some n.toNat else none
  | _, _ => none

def sliceV (esz : Nat) (x : V) (lo hi mx : Option V) : Option V :=
  match x with
  | .nils =>
    match bnd mx 0 with
    | none => none
    | some m => match bnd hi 0 with
      | none => none
      | some h => match bnd lo 0 with
        | none => none
        | some l => if Nat.ble l h && Nat.ble h m && Nat.beq m 0 then some .nils else none
  | .sl b off len (.ex c) =>
    match bnd mx c with
    | none => none
    | some m => match bnd hi len with
      | none => none
      | some h => match bnd lo 0 with
        | none => none
        | some l => if Nat.ble l h && Nat.ble h m && Nat.ble m c then some (.sl b (if Nat.beq m l then off else off + l * esz) (h - l) (.ex (m - l))) else none
  | .sl b off len (.op e) =>
    match bnd hi len with
    | none => none
    | some h => match bnd lo 0 with
      | none => none
      | some l =>
        match mx with
        | none =>
          if Nat.ble l h && Nat.ble h len && Nat.beq e esz then
            if Nat.beq l len then (if Nat.beq l 0 then some x else some (.sle b off l e)) else some (.sl b (off + l * esz) (h - l) (.op e))
          else none
        | some v => match bnd (some v) 0 with
          | none => none
          | some m => if Nat.ble l h && Nat.ble h m && Nat.ble m len then some (.sl b (if Nat.beq m l then off else off + l * esz) (h - l) (.ex (m - l))) else none
  | .sle _ _ _ _ =>
    match bnd hi 0 with
    | none => none
    | some h => match bnd lo 0 with
      | none => none
      | some l => match mx with
        | none => if Nat.beq h 0 && Nat.beq l 0 then some x else none
        | some _ => none
  | _ => none

def sliceArrV (n esz : Nat) (x : V) (lo hi mx : Option V) : Option V :=
  match x with
  | .ptr b off =>
    match bnd mx n with
    | none => none
    | some m => match bnd hi n with
      | none => none
      | some h => match bnd lo 0 with
        | none => none
        | some l => if Nat.ble l h && Nat.ble h m && Nat.ble m n then some (.sl b (if Nat.beq m l then off else off + l * esz) (h - l) (.ex (m - l))) else none
  | _ => none

def sliceStrV (x : V) (lo hi : Option V) : Option V :=
  match x with
  | .str s =>
    match bnd hi s.len with
    | none => none
    | some h => match bnd lo 0 with
      | none => none
      | some l => if Nat.ble l h && Nat.ble h s.len then some (.str (s.sub l h)) else none
  | _ => none

def minI : V → List V → Option V
  | x, [] => some x
  | .int k a, .int k' b :: l => if k = k' then minI (.int k (if b < a then b else a)) l else none
  | _, _ :: _ => none
def maxI : V → List V → Option V
  | x, [] => some x
  | .int k a, .int k' b :: l => if k = k' then maxI (.int k (if b > a then b else a)) l else none
  | _, _ :: _ => none

def fieldV (l : List V) (off : Nat) : Option Nat → Option V
  | none => l[off]?
  | some n => if Nat.ble (off + n) l.length then some (.agg ((l.drop off).take n)) else none

/-- An operation that hangs on its operands alone. -/
def aopP (o : AOp) (e : Env) : Option V :=
  match o with
  | .mov x => let v := opv e x; if v.live then some v else none
  | .pick c a b =>
    match opv e c with
    | .bool true => let v := opv e a; if v.live then some v else none
    | .bool false => let v := opv e b; if v.live then some v else none
    | _ => none
  | .build z ps => match fillA (parts e ps) z with
    | some l => some (.agg l)
    | none => none
  | .nilck x => match opv e x with
    | .ptr b off => some (.ptr b off)
    | _ => none
  | .bin op t x y => binV op t (opv e x) (opv e y)
  | .un op x => unV op (opv e x)
  | .conv (.toInt k) x => match opv e x with
    | .int _ n => some (.int k (k.wrap n))
    | _ => none
  | .conv .same x => match opv e x with
    | .str l => some (.str l)
    | _ => none
  | .mkifc t x => let v := opv e x; if v.live then some (.ifc t v) else none
  | .mkfn f a c => if (opvs e a).all V.live && (opvs e c).all V.live then some (.fn f (opvs e a) (opvs e c)) else none
  | .sliceStr x lo hi => sliceStrV (opv e x) (opvo e lo) (opvo e hi)
  | .sliceSl esz x lo hi mx => sliceV esz (opv e x) (opvo e lo) (opvo e hi) (opvo e mx)
  | .sliceArr n esz x lo hi mx => sliceArrV n esz (opv e x) (opvo e lo) (opvo e hi) (opvo e mx)
  | .faddr off x => match opv e x with
    | .ptr b o => some (.ptr b (o + off))
    | _ => none
  | .field off none x => match opv e x with
    | .agg l => l[off]?
    | _ => none
  | .field off (some n) x => match opv e x with
    | .agg l => if Nat.ble (off + n) l.length then some (.agg ((l.drop off).take n)) else none
    | _ => none
  | .iaddrS esz x i => match opv e x, opv e i with
    | .sl b off len _, .int _ n => if 0 ≤ n ∧ n < len then some (.ptr b (off + n.toNat * esz)) else none
    | _, _ => none
  | .iaddrA len esz x i => match opv e x, opv e i with
    | .ptr b off, .int _ n => if 0 ≤ n ∧ n < len then some (.ptr b (off + n.toNat * esz)) else none
    | _, _ => none
  | .idxStr x i => match opv e x, opv e i with
    | .str s, .int _ n => if 0 ≤ n then (if Nat.blt n.toNat s.len then some (.int .u8 (s.get n.toNat)) else none) else none
    | _, _ => none
  | .extract i x => match opv e x with
    | .tup l => l[i]?
    | _ => none
  | .load0 x => match opv e x with
    | .ptr _ _ => some (.agg [])
    | _ => none
  | .idxArr len esz s x i => match opv e x, opv e i with
    | .agg l, .int _ n => if 0 ≤ n ∧ n < len then fieldV l (n.toNat * esz) s else none
    | _, _ => none
  | .len true x => match opv e x with
    | .str s => some (.int .i64 s.len)
    | _ => none
  | .len false x => match opv e x with
    | .nils => some (.int .i64 0)
    | .sl _ _ n _ => some (.int .i64 n)
    | .sle _ _ _ _ => some (.int .i64 0)
    | _ => none
  | .lenC n => some (.int .i64 n)
  | .cap x => match opv e x with
    | .nils => some (.int .i64 0)
    | .sl _ _ _ (.ex c) => some (.int .i64 c)
    | _ => none
  | .min x l => match minI (opv e x) (opvs e l) with
    | some (.int k n) => some (.int k n)
    | _ => none
  | .max x l => match maxI (opv e x) (opvs e l) with
    | some (.int k n) => some (.int k n)
    | _ => none
  | _ => none

def lookupV (t : ETag) (z m x : V) (σ : H) : Option V := match m with
  | .mp b => match look σ.bl b with
    | some (.map l) => if keyOk t x then (match findM t x l with
      | some (some v) => some (.tup [v, .bool true])
      | some none => if z.live then some (.tup [z, .bool false]) else none
      | none => none) else none
    | _ => none
  | _ => none
def mapsetV (t : ETag) (m k v : V) (σ : H) : Option (V × H) := match m with
  | .mp b => match look σ.bl b with
    | some (.map l) => if keyOk t k && v.live then (match findM t k l with
      | some none => some (.dead, σ.set b (.map (l ++ [(k, v)])))
      | _ => none) else none
    | _ => none
  | _ => none

/-- The first field of a variable that has no cell. -/
def faddr0V (t : TypeId) (x : V) (σ : H) : Option V := match x with
  | .ptr b 0 => match look σ.bl b with
    | some (.unit t') => if Nat.beq t t' then some (.ptr b 0) else none
    | _ => none
  | _ => none

/-- An operation that only reads memory. -/
def aopL (E : List (Nat × Blk)) (o : AOp) (e : Env) (σ : H) : Option V :=
  match o with
  | .load none x => match opv e x with
    | .ptr b off => match rd E σ b with
      | some l => l[off]?
      | none => none
    | _ => none
  | .load (some n) x => match opv e x with
    | .ptr b off => match rdN E σ b off n with
      | some l => some (.agg l)
      | none => none
    | _ => none
  | .conv .toStr x => if (opv e x).isStr then none else match srcCells E σ 1 (opv e x) with
    | some (_, l) => match bytesOf l with
      | some s => some (.str (BS.ofList s))
      | none => none
    | none => none
  | .lookup t z m x => lookupV t z (opv e m) (opv e x) σ
  | .faddr0 t x => faddr0V t (opv e x) σ
  | _ => none

/-- An operation that makes one block, out of its operands alone. -/
def aopA (o : AOp) (e : Env) (next : Nat) : Option (V × Blk) :=
  match o with
  | .alloc _ z => some (.ptr next 0, .cells z)
  | .box _ x => let v := opv e x; if v.live && allOne v.cells then some (.ptr next 0, .cells v.cells) else none
  | .buildSlice _ n z ps => match fillA (parts e ps) z with
    | some l => if allOne l then some (.sl next 0 n (.ex n), .cells l) else none
    | none => none
  | .conv (.toBytes _) x => match opv e x with
    | .str l => if Nat.ble l.len 1000000000000 then some (.sl next 0 l.len (.op 1), .cells (ints l.toList)) else none
    | _ => none
  | .mkslice _ _ bytes z len cap => match opv e len, opv e cap with
    | .int .i64 n, .int .i64 c =>
      if 0 ≤ n ∧ n ≤ c ∧ c * bytes ≤ 281474976710656 ∧ c ≤ 1000000000000 then some (.sl next 0 n.toNat (.ex c.toNat), .cells (List.replicate c.toNat z).flatten) else none
    | _, _ => none
  | .mkmap => some (.mp next, .map [])
  | .alloc0 el => some (.ptr next 0, .unit el)
  | .box0 el x => match opv e x with
    | .agg [] => some (.ptr next 0, .unit el)
    | _ => none
  | _ => none

/-- An operation that writes memory. -/
def aopK (E : List (Nat × Blk)) (o : AOp) (e : Env) (σ : H) : Option (V × H) :=
  match o with
  | .store n x v => match opv e x with
    | .ptr b off =>
      let cs := (opv e v).cells
      match look σ.bl b with
      | some (.cells l) => if Nat.beq cs.length n && Nat.ble (off + n) l.length && allOne cs then some (.dead, σ.set b (.cells (spl l off cs))) else none
      | _ => none
    | _ => none
  | .append _ esz bytes s x => appendV E esz bytes (opv e s) (opv e x) σ
  | .copy esz d s => match opv e d, srcCells E σ esz (opv e s) with
    | .nils, some (_, _) => some (.int .i64 0, σ)
    | .sle _ _ _ _, some (_, _) => some (.int .i64 0, σ)
    | .sl b off len _, some (n, src) =>
      let m := Nat.min n len
      if m = 0 then some (.int .i64 0, σ) else
      match look σ.bl b with
      | some (.cells l) => if Nat.ble (off + m * esz) l.length && allOne (src.take (m * esz)) then some (.int .i64 m, σ.set b (.cells (spl l off (src.take (m * esz))))) else none
      | _ => none
    | _, _ => none
  | .mapset t m k v => mapsetV t (opv e m) (opv e k) (opv e v) σ
  | .store0 x v => match opv e x, opv e v with
    | .ptr _ _, .agg [] => some (.dead, σ)
    | _, _ => none
  | _ => none

inductive Cls where
  | p | l | a | k
  deriving DecidableEq, Inhabited
def AOp.cls : AOp → Cls
  | .load _ _ | .conv .toStr _ | .lookup _ _ _ _ | .faddr0 _ _ => .l
  | .alloc _ _ | .box _ _ | .buildSlice _ _ _ _ | .conv (.toBytes _) _ | .mkslice _ _ _ _ _ _ | .mkmap | .alloc0 _ | .box0 _ _ => .a
  | .store _ _ _ | .append _ _ _ _ _ | .copy _ _ _ | .call _ _ | .callv _ _ | .mapset _ _ _ _ | .store0 _ _ => .k
  | _ => .p

/-- An operation that enters no function. -/
def aop (E : List (Nat × Blk)) (o : AOp) (e : Env) (σ : H) : Option (V × H) :=
  match o.cls with
  | .p => match aopP o e with
    | some v => some (v, σ)
    | none => none
  | .l => match aopL E o e σ with
    | some v => some (v, σ)
    | none => none
  | .a => match aopA o e σ.next with
    | some (v, b) => some (v, σ.add b)
    | none => none
  | .k => aopK E o e σ

abbrev Den := FuncId → List V → H → Option (V × H)

def putE (e : Env) : Option Nat → V → Env
  | some d, v => (d, v) :: e
  | none, _ => e

/-- One operation. -/
def den1 (E : List (Nat × Blk)) (D : Den) (o : AOp) (e : Env) (σ : H) : Option (V × H) :=
  match o with
  | .call f args => if (opvs e args).all V.live then D f (opvs e args) σ else none
  | .callv f args => match opv e f with
    | .fn g first cap => if (opvs e args).all V.live then D g (first ++ opvs e args ++ cap) σ else none
    | _ => none
  | o => aop E o e σ

/-- What an operation leaves that is not carried out. -/
def undefV : V := .tup []

/-- Is an operation carried out? -/
def wantedA (e : Env) : Option (Nat × Bool) → Option Bool
  | none => some true
  | some (t, b) => match getE e t with
    | .bool c => some (c == b)
    | .tup [] => some false
    | _ => none

def denOps (E : List (Nat × Blk)) (D : Den) : List AOper → Env → H → Option (Env × H)
  | [], e, σ => some (e, σ)
  | o :: r, e, σ =>
    match wantedA e o.guard with
    | none => none
    | some false => denOps E D r (putE e o.dst undefV) σ
    | some true => match den1 E D o.op e σ with
      | none => none
      | some (v, σ') => denOps E D r (putE e o.dst v) σ'

/-! ### regions whose order is open -/
def memN : List Nat → Nat → Bool
  | [], _ => false
  | a :: l, k => Nat.beq a k || memN l k
/-- These temporaries alone. -/
def restr : List Nat → Env → Env
  | [], _ => []
  | t :: l, e => match look e t with
    | some v => (t, v) :: restr l e
    | none => restr l e

/-- Without the blocks n0 + i (i below n) of which p is false. -/
def hideB (n0 n : Nat) (p : Nat → Bool) : List (Nat × Blk) → List (Nat × Blk)
  | [] => []
  | (id, b) :: l => if Nat.ble n0 id && Nat.blt id (n0 + n) && !p (id - n0) then hideB n0 n p l else (id, b) :: hideB n0 n p l
/-- Those blocks alone. -/
def keepB (n0 n : Nat) (p : Nat → Bool) : List (Nat × Blk) → List (Nat × Blk)
  | [] => []
  | (id, b) :: l => if Nat.ble n0 id && Nat.blt id (n0 + n) && !p (id - n0) then (id, b) :: keepB n0 n p l else keepB n0 n p l

/-- 'ss': the blocks behind each operation that writes, the newest first; 'ks': those operations; 'am': those that made a block, as bits; 'ls': what was read. -/
structure DS where
  e : Env
  nx : Nat
  ss : List (List (Nat × Blk))
  ks : List Nat
  am : Nat
  ls : List (Nat × AOp × Env × V)

def visK (anc am : Nat) (k : Nat) : Bool := anc.testBit k && am.testBit k

def dstep (E : List (Nat × Blk)) (D : Den) (n0 n i : Nat) (o : AOper) (p : DP) (s : DS) : Option DS :=
  match wantedA (restr p.looks s.e) o.guard with
  | none => none
  | some false => some { s with e := putE s.e o.dst undefV }
  | some true =>
    match o.op.cls with
    | .p => match aopP o.op (restr p.looks s.e) with
      | none => none
      | some v => some { s with e := putE s.e o.dst v }
    | .l => match s.ss with
      | [] => none
      | h :: _ => match aopL E o.op (restr p.looks s.e) ⟨s.nx, hideB n0 n (visK p.anc s.am) h⟩ with
        | none => none
        | some v => some { s with e := putE s.e o.dst v, ls := (i, o.op, restr p.looks s.e, v) :: s.ls }
    | .a => match aopA o.op (restr p.looks s.e) (n0 + i) with
      | none => none
      | some (v, b) => some { s with e := putE s.e o.dst v, ss := s.ss.map ((n0 + i, b) :: ·), am := s.am ||| 2 ^ i }
    | .k => match s.ss with
      | [] => none
      | h :: _ => match den1 E D o.op (restr p.looks s.e) ⟨s.nx, hideB n0 n (visK p.anc s.am) h⟩ with
        | none => none
        | some (v, σ') => some { s with e := putE s.e o.dst v, nx := σ'.next, ss := (keepB n0 n (visK p.anc s.am) h ++ σ'.bl) :: s.ss, ks := i :: s.ks }

def dsteps (E : List (Nat × Blk)) (D : Den) (n0 n : Nat) : Nat → List AOper → List DP → DS → Option DS
  | _, [], _, s => some s
  | i, o :: l, p :: pl, s => match dstep E D n0 n i o p s with
    | none => none
    | some s' => dsteps E D n0 n (i + 1) l pl s'
  | _, _ :: _, [], _ => none

mutual
def V.beq : V → V → Bool
  | .bool a, .bool b => a == b
  | .int k a, .int l b => decide (k = l) && a == b
  | .str a, .str b => decide (a = b)
  | .nilp, .nilp => true
  | .ptr a b, .ptr c d => Nat.beq a c && Nat.beq b d
  | .nils, .nils => true
  | .sl a b c x, .sl d e f y => Nat.beq a d && Nat.beq b e && Nat.beq c f && decide (x = y)
  | .sle a b c x, .sle d e f y => Nat.beq a d && Nat.beq b e && Nat.beq c f && Nat.beq x y
  | .nilm, .nilm => true
  | .mp a, .mp b => Nat.beq a b
  | .fn f a b, .fn g c d => Nat.beq f g && beqs a c && beqs b d
  | .nilf, .nilf => true
  | .ifc t v, .ifc u x => Nat.beq t u && V.beq v x
  | .nili, .nili => true
  | .agg l, .agg m => beqs l m
  | .tup l, .tup m => beqs l m
  | _, _ => false
def beqs : List V → List V → Bool
  | [], [] => true
  | a :: l, b :: m => V.beq a b && beqs l m
  | _, _ => false
end

/-- May the load j be carried out behind just those operations that write? 'ks': these, the newest first; 'more': the later ones. -/
def legal (pl : List DP) (j : Nat) (ks more : List Nat) : Bool :=
  more.all (fun k => !((pl.getD j ⟨0, []⟩).anc.testBit k)) && ks.all (fun k => !((pl.getD k ⟨0, []⟩).anc.testBit j))
def checkL (E : List (Nat × Blk)) (n0 n : Nat) (pl : List DP) (am : Nat) (j : Nat) (op : AOp) (em : Env) (v : V) : List (List (Nat × Blk)) → List Nat → List Nat → Bool
  | [], _, _ => true
  | h :: ss, ks, more =>
    (!legal pl j ks more || (match aopL E op em ⟨0, hideB n0 n (visK (pl.getD j ⟨0, []⟩).anc am) h⟩ with
      | some u => V.beq u v
      | none => false)) &&
    (match ks with
      | [] => true
      | k :: ks' => checkL E n0 n pl am j op em v ss ks' (k :: more))

def drawW (E : List (Nat × Blk)) (D : Den) (ops : List AOper) (pl : List DP) (e : Env) (σ : H) : Option (Env × H) :=
  match dsteps E D σ.next ops.length 0 ops pl ⟨e, σ.next + ops.length, [σ.bl], [], 0, []⟩ with
  | none => none
  | some s =>
    if s.ls.all (fun (j, op, em, v) => checkL E σ.next ops.length pl s.am j op em v s.ss s.ks []) then
      match s.ss with
      | h :: _ => some (s.e, ⟨s.nx, hideB σ.next ops.length (fun k => s.am.testBit k) h⟩)
      | [] => none
    else none

end Go.Og

namespace Go.Og

def absCell : Value → V
  | .bool b => .bool b
  | .int k n => .int k n
  | .string s => .str (BS.ofList s.data.toList)
  | .pointer none => .nilp
  | .slice none 0 0 => .nils
  | .map none => .nilm
  | .nilFunc => .nilf
  | .nilIface => .nili
  | _ => .dead
def absV : Value → V
  | .agg cs => if (cs.toList.map absCell).all V.live then .agg (cs.toList.map absCell) else .dead
  | v => absCell v
def absZ (v : Value) : Option (List V) := if (v.cells.toList.map absCell).all V.live then some (v.cells.toList.map absCell) else none

def compO (G : Nat → Bool) : Operand → AO
  | .tmp t => .tmp t
  | .const v => .con (absV v)
  | .global g => if G g then .con (.ptr g 0) else .con .dead
  | .func f => .con (.fn f [] [])

/-- One cell, or an aggregate of so many. -/
def shapeOf (P : Program) (t : TypeId) : Option (Option Nat) :=
  match P.underlying t, P.info? t with
  | some (.struct _), some i => some (some i.size)
  | some (.array _ _), some i => some (some i.size)
  | some _, some _ => some none
  | _, _ => none
def sizeO (P : Program) (t : TypeId) : Option Nat := (P.info? t).map (·.size)
def zeroO (P : Program) (t : TypeId) : Option (List V) :=
  match P.info? t with
  | some i => match i.zero with
    | some z => absZ z
    | none => none
  | none => none

def isLit : Operand → Bool
  | .const _ => true
  | _ => false

def flatOf (P : Program) : List Field → Option (List (Nat × FK))
  | [] => some []
  | f :: fs => match f.name == "_", flatOf P fs with
    | true, r => r
    | false, some r => match P.underlying f.type with
      | some (.int _) => some ((f.offset, .int) :: r)
      | some .bool => some ((f.offset, .bool) :: r)
      | some .string => some ((f.offset, .str) :: r)
      | _ => none
    | false, none => none
def etagFlat (P : Program) (t : TypeId) (fs : List Field) : ETag :=
  match P.stoodInHeld t || P.eqGuardType P.depth t, flatOf P fs with
  | false, some l => .flat l
  | _, _ => .none

/-- How a map's keys are held against each other. -/
def ktag (P : Program) (t : TypeId) : ETag :=
  match P.underlying t with
  | some (.struct fs) => etagFlat P t fs.toList
  | _ => .none
def zeroVV (P : Program) (t : TypeId) : V :=
  match P.info? t with
  | some i => match i.zero with
    | some z => absV z
    | none => .dead
  | none => .dead

def etag (P : Program) (op : BinOp) (t : TypeId) (x y : Operand) : ETag :=
  match op with
  | .eql | .neq =>
    match P.underlying t with
    | some .bool => .bool
    | some (.struct fs) => etagFlat P t fs.toList
    | some (.pointer _) => .ptr
    | some (.slice _) => .slice
    | some (.map _ _) => .map
    | some (.func _ _ _) => .func
    | some (.interface _) => .iface (isLit x || isLit y)
    | _ => .none
  | _ => .none

def ctag (P : Program) (s d : TypeId) : CTag :=
  match P.underlying s, P.underlying d with
  | some _, some (.int k) => .toInt k
  | some .string, some .string => .same
  | some .string, some (.slice e) => match P.underlying e with
    | some (.int .u8) => .toBytes e
    | _ => .bad
  | some (.slice e), some .string => match P.underlying e with
    | some (.int .u8) => .toStr
    | _ => .bad
  | _, _ => .bad

/-- May a function be entered? -/
def callOk (P : Program) (f : FuncId) : Bool :=
  match P.funcs[f]? with
  | some fn => fn.name != "runtime.NumGoroutine" && fn.body.isSome
  | none => false

def isSeq : TypeDesc → Bool
  | .string => true
  | .slice _ => true
  | _ => false

def compB (P : Program) (G : Nat → Bool) (b : Builtin) (ts : Array TypeId) (args : Array Operand) : AOp :=
  match b, ts.toList, args.toList with
  | .len, [t], [x] => match P.underlying t with
    | some .string => .len true (compO G x)
    | some (.slice _) => .len false (compO G x)
    | some (.array n _) => .lenC n
    | some (.pointer a) => match P.underlying a with
      | some (.array n _) => .lenC n
      | _ => .bad
    | _ => .bad
  | .cap, [t], [x] => match P.underlying t with
    | some (.slice _) => .cap (compO G x)
    | _ => .bad
  | .append, [t, u], [s, x] => match P.underlying t, P.underlying u with
    | some (.slice e), some du => match P.info? e with
      | some i => match i.zero with
        | some z => if !(isSeq du) || i.size == 0 || z.cells.size != i.size then .bad else .append e i.size i.bytes (compO G s) (compO G x)
        | none => .bad
      | none => .bad
    | _, _ => .bad
  | .copy, [t, u], [d, s] => match P.underlying t, P.underlying u with
    | some (.slice e), some _ => match P.info? e with
      | some i => .copy i.size (compO G d) (compO G s)
      | none => .bad
    | _, _ => .bad
  | .min, _, x :: l => .min (compO G x) (l.map (compO G))
  | .max, _, x :: l => .max (compO G x) (l.map (compO G))
  | _, _, _ => .bad

/-- The places of a struct's fields. -/
def places (P : Program) : List Field → Option (List (Nat × Nat))
  | [] => some []
  | f :: l => match P.info? f.type, places P l with
    | some i, some r => some ((f.offset, i.size) :: r)
    | _, _ => none
def compParts (G : Nat → Bool) (place : Nat → Option (Nat × Nat)) : List (Nat × Operand) → Option (List (Nat × Nat × AO))
  | [] => some []
  | (i, x) :: l => match place i, compParts G place l with
    | some (o, s), some r => some ((o, s, compO G x) :: r)
    | _, _ => none

def compOp (P : Program) (G : Nat → Bool) (op : Op) : AOp :=
  match op with
  | .move x | .assign x => .mov (compO G x)
  | .pick c a b => .pick (compO G c) (compO G a) (compO G b)
  | .alloc el => match zeroO P el with
    | some [] => .alloc0 el
    | some z => .alloc el z
    | none => .bad
  | .box el x => match zeroO P el with
    | some [] => .box0 el (compO G x)
    | _ => .box el (compO G x)
  | .build t ps =>
    match P.underlying t, zeroO P t with
    | some (.struct fs), some z => match places P fs.toList with
      | some pl => match compParts G (pl[·]?) ps.toList with
        | some l => .build z l
        | none => .bad
      | none => .bad
    | some (.array _ el), some z => match sizeO P el with
      | some s => match compParts G (fun i => some (i * s, s)) ps.toList with
        | some l => .build z l
        | none => .bad
      | none => .bad
    | _, _ => .bad
  | .buildSlice t n ps =>
    match P.underlying t with
    | some (.slice el) => match sizeO P el, zeroO P el with
      | some s, some z => match compParts G (fun i => some (i * s, s)) ps.toList with
        | some l => if n * s > 2 ^ 24 || z.length != s then .bad else .buildSlice el n (List.replicate n z).flatten l
        | none => .bad
      | _, _ => .bad
    | _ => .bad
  | .load t x => match shapeOf P t with
    | some (some 0) => .load0 (compO G x)
    | some s => .load s (compO G x)
    | none => .bad
  | .store t x v => match sizeO P t with
    | some 0 => .store0 (compO G x) (compO G v)
    | some n => .store n (compO G x) (compO G v)
    | none => .bad
  | .nilCheck x => .nilck (compO G x)
  | .binOp o t x y _ => .bin o (etag P o t x y) (compO G x) (compO G y)
  | .unOp o _ x => .un o (compO G x)
  | .convert s d x => .conv (ctag P s d) (compO G x)
  | .makeInterface t x => match P.underlying t with
    | some (.interface _) => .bad
    | some _ => .mkifc t (compO G x)
    | none => .bad
  | .makeFunc (.func f) a c => .mkfn f (a.toList.map (compO G)) (c.toList.map (compO G))
  | .makeSlice t l c => match P.underlying t with
    | some (.slice el) => match P.info? el, zeroO P el with
      | some i, some z => if z.length != i.size then .bad else .mkslice el i.size i.bytes z (compO G l) (compO G c)
      | _, _ => .bad
    | _ => .bad
  | .slice t x lo hi mx => if mx.isSome && !hi.isSome then .bad else match P.underlying t with
    | some .string => match mx with
      | none => .sliceStr (compO G x) (lo.map (compO G)) (hi.map (compO G))
      | some _ => .bad
    | some (.slice el) => match sizeO P el with
      | some s => .sliceSl s (compO G x) (lo.map (compO G)) (hi.map (compO G)) (mx.map (compO G))
      | none => .bad
    | some (.array n el) => match sizeO P el with
      | some s => .sliceArr n s (compO G x) (lo.map (compO G)) (hi.map (compO G)) (mx.map (compO G))
      | none => .bad
    | _ => .bad
  | .fieldAddr s x f => match P.underlying s with
    | some (.struct fs) => match fs[f]? with
      | some fd => match sizeO P fd.type with
        | some 0 => if fd.offset == 0 && fd.byteOffset == 0 && P.cellsOf s == 0 then .faddr0 s (compO G x) else .bad
        | some _ => .faddr fd.offset (compO G x)
        | none => .bad
      | none => .bad
    | _ => .bad
  | .field s x f => match P.underlying s with
    | some (.struct fs) => match fs[f]? with
      | some fd => match shapeOf P fd.type with
        | some n => .field fd.offset n (compO G x)
        | none => .bad
      | none => .bad
    | _ => .bad
  | .indexAddr t x i => match P.underlying t with
    | some (.slice el) => match sizeO P el with
      | some s => .iaddrS s (compO G x) (compO G i)
      | none => .bad
    | some (.array n el) => match sizeO P el with
      | some s => .iaddrA n s (compO G x) (compO G i)
      | none => .bad
    | _ => .bad
  | .index t x i => match P.underlying t with
    | some .string => .idxStr (compO G x) (compO G i)
    | some (.array n el) => match sizeO P el, shapeOf P el with
      | some z, some s => .idxArr n z s (compO G x) (compO G i)
      | _, _ => .bad
    | _ => .bad
  | .extract x i => .extract i (compO G x)
  | .makeMap _ none => .mkmap
  | .lookup t m x true => match P.underlying t with
    | some (.map k el) => .lookup (ktag P k) (zeroVV P el) (compO G m) (compO G x)
    | _ => .bad
  | .mapUpdate t m k v => match P.underlying t with
    | some (.map kt _) => .mapset (ktag P kt) (compO G m) (compO G k) (compO G v)
    | _ => .bad
  | .call c => match c.callee with
    | .builtin b => compB P G b c.argTypes c.args
    | .value (.func f) => .call f (c.args.toList.map (compO G))
    | .value (.tmp t) => .callv (.tmp t) (c.args.toList.map (compO G))
    | _ => .bad
  | _ => .bad

def compG (ops : Array Oper) (g : Option (Nat × Bool)) : Option (Option (Nat × Bool)) :=
  match g with
  | none => some none
  | some (j, b) => match (ops[j]?).bind (·.dst) with
    | some t => some (some (t, b))
    | none => none
def dstOk (nt : Nat) : Option Nat → Bool
  | some d => Nat.blt d nt
  | none => true
def compOper (P : Program) (G : Nat → Bool) (nt : Nat) (ops : Array Oper) (o : Oper) : AOper :=
  match compG ops o.guard, dstOk nt o.dst with
  | some g, true => ⟨o.dst, compOp P G o.op, g⟩
  | _, _ => ⟨o.dst, .bad, none⟩

def looksOf (ops : Array Oper) (o : Oper) : List Nat :=
  (o.op.operands.toList.filterMap fun | .tmp t => some t | _ => none) ++
  (match o.guard with
   | some (g, _) => ((ops[g]?).bind (·.dst)).toList
   | none => [])
def planOf (ops : Array Oper) : List DP := (ops.toList.zip (Region.before ops).toList).map fun (o, m) => ⟨m, looksOf ops o⟩

/-- Every index below n. -/
def allN : Nat → (Nat → Bool) → Bool
  | 0, _ => true
  | n + 1, p => p n && allN n p
def ancOf (pl : List DP) (i : Nat) : Nat := (pl.getD i ⟨0, []⟩).anc
def planOk (ops : Array Oper) (l : List AOper) (pl : List DP) : Bool :=
  Nat.beq pl.length ops.size &&
  allN ops.size fun i =>
    match ops[i]?, l[i]?, pl[i]? with
    | some o, some ao, some p =>
      o.after.toList.all (fun e => !Region.binds .any e || Nat.blt e.on i) &&
      allN ops.size fun k =>
        (!p.anc.testBit k || o.after.toList.any (fun e => Region.binds .any e && (Nat.beq e.on k || (ancOf pl e.on).testBit k))) &&
        (Nat.beq i k || match ops[k]?, l[k]?, pl[k]? with
          | some o', some ao', some p' =>
            (match o.dst with
              | none => true
              | some t => (match o'.dst with | some t' => !Nat.beq t t' | none => true) && (!memN p'.looks t || p'.anc.testBit i || p.anc.testBit k)) &&
            (match ao.op.cls, ao'.op.cls with
              | .k, .k => !Nat.blt i k || p'.anc.testBit i
              | _, _ => true)
          | _, _, _ => false)
    | _, _, _ => false

def compC (P : Program) (G : Nat → Bool) (nt : Nat) : Code → AC
  | .skip => .skip
  | .region _ ops false => .region (ops.toList.map (compOper P G nt ops))
  | .region _ ops true => if planOk ops (ops.toList.map (compOper P G nt ops)) (planOf ops) then .draw (ops.toList.map (compOper P G nt ops)) (planOf ops) else .bad
  | .seq a b => .seq (compC P G nt a) (compC P G nt b)
  | .cond c a b => .cond (compO G c) (compC P G nt a) (compC P G nt b)
  | .block id c => .block id (compC P G nt c)
  | .loop c => .loop (compC P G nt c)
  | .exit id => .exit id
  | .ret => .ret
  | _ => .bad

def compR (P : Program) : ResultVar → Option AR
  | .tmp t => some (.tmp t)
  | .cell t ty => match shapeOf P ty with
    | some s => some (.cell t s)
    | none => none
def compRs (P : Program) : List ResultVar → Option (List AR)
  | [] => some []
  | r :: l => match compR P r, compRs P l with
    | some a, some m => some (a :: m)
    | _, _ => none
def compF (P : Program) (G : Nat → Bool) (fn : Func) : Option AFn :=
  match fn.body, compRs P fn.results.toList with
  | some c, some r => some ⟨fn.ntmps, r, [], compC P G fn.ntmps c⟩
  | _, _ => none

/-- Without what is only there for the evaluator. -/
def AC.strip : AC → AC
  | .seq a b => .seq a.strip b.strip
  | .cond c a b => .cond c a.strip b.strip
  | .block id c => .block id c.strip
  | .loop c => .loop c.strip
  | .keep _ c => c.strip
  | c => c
def AFn.strip (f : AFn) : AFn := ⟨f.ntmps, f.results, [], f.body.strip⟩

end Go.Og

namespace Go.Og

structure EnvOk (R : Ren) (e : Env) (tmps : Array Value) : Prop where
  at_ : ∀ (k : Nat) (v : V), look e k = some v → v = .dead ∨ ∃ x, tmps[k]? = some x ∧ conc R v = some x
theorem EnvOk.mono {R R' : Ren} {e : Env} {tmps : Array Value} (h : EnvOk R e tmps) (hle : Le R R') : EnvOk R' e tmps :=
  ⟨fun k v hk => (h.at_ k v hk).imp id fun ⟨x, h1, h2⟩ => ⟨x, h1, conc_mono hle v x h2⟩⟩
theorem EnvOk.get {R : Ren} {e : Env} {tmps : Array Value} (h : EnvOk R e tmps) {t : Nat} {v : V} (hv : getE e t = v) (hl : v.live = true) : ∃ x, tmps[t]? = some x ∧ conc R v = some x := by
  unfold getE at hv
  cases ht : look e t with
  | none => rw [ht] at hv; subst hv; cases hl
  | some u =>
    rw [ht] at hv
    simp only at hv
    subst hv
    rcases h.at_ t _ ht with rfl | h
    · cases hl
    · exact h

/-- What the compiler's operands ask of the variables. -/
def GlobOk (G : Nat → Bool) (R : Ren) : Prop := ∀ g, G g = true → ∃ i, R g = some i ∧ i.blk = g ∧ i.shift = 0

theorem absCell_ok (R : Ren) (x : Value) (h : (absCell x).live = true) : conc R (absCell x) = some x := by
  unfold absCell at h ⊢
  split at h <;> first | rfl | (simp only [conc, BS.toList_ofList]; done) | (cases h; done)
theorem absCells_ok (R : Ren) : ∀ (l : List Value), (l.map absCell).all V.live = true → concs R (l.map absCell) = some l
  | [], _ => rfl
  | x :: l, h => by
    simp only [List.map_cons, List.all_cons, Bool.and_eq_true] at h
    exact concs_cons.2 ⟨x, l, absCell_ok R x h.1, absCells_ok R l h.2, rfl⟩
theorem absV_ok (R : Ren) (x : Value) (h : (absV x).live = true) : conc R (absV x) = some x := by
  cases x with
  | agg cs =>
    simp only [absV] at h ⊢
    by_cases hl : (cs.toList.map absCell).all V.live = true
    · rw [if_pos hl]; rw [conc_agg_mk (absCells_ok R _ hl)]
    · rw [if_neg hl] at h; cases h
  | _ => simp only [absV] at h ⊢; exact absCell_ok R _ h
theorem absZ_ok (R : Ren) {x : Value} {l : List V} (h : absZ x = some l) : concs R l = some x.cells.toList := by
  unfold absZ at h
  split at h
  · cases h; exact absCells_ok R _ ‹_›
  · cases h

section
variable {G : Nat → Bool} {R : Ren} {e : Env} {a : Act}

theorem ev (he : EnvOk R e a.tmps) (hg : GlobOk G R) {o : Operand} {v : V} (h : opv e (compO G o) = v) (hl : v.live = true) : conc R v = some (a.eval o) := by
  subst h
  cases o with
  | tmp t =>
    simp only [compO, opv] at hl ⊢
    obtain ⟨x, hx, hc⟩ := he.get rfl hl
    simp only [hc, Act.eval, Array.getD_eq_getD_getElem?, hx, Option.getD_some]
  | const x => exact absV_ok R x hl
  | global g =>
    simp only [compO] at hl ⊢
    by_cases hG : G g = true
    · rw [if_pos hG]
      obtain ⟨i, hi, hb, hs⟩ := hg g hG
      simp [opv, conc, hi, hb, hs, Act.eval]
    · rw [if_neg hG] at hl; cases hl
  | func f => simp [compO, opv, conc, concs, Act.eval]

theorem ev_ptr (he : EnvOk R e a.tmps) (hg : GlobOk G R) {o : Operand} {b off : Nat} (h : opv e (compO G o) = .ptr b off) :
    ∃ i, R b = some i ∧ a.eval o = .pointer (some ⟨i.blk, i.shift + off, none⟩) := by
  have := ev he hg h rfl
  simp only [conc, Option.map_eq_some_iff] at this
  obtain ⟨i, hi, hx⟩ := this
  exact ⟨i, hi, hx.symm⟩
theorem ev_int (he : EnvOk R e a.tmps) (hg : GlobOk G R) {o : Operand} {k : IntKind} {n : Int} (h : opv e (compO G o) = .int k n) : a.eval o = .int k n := by
  have := ev he hg h rfl
  simp only [conc, Option.some.injEq] at this
  exact this.symm
theorem ev_bool (he : EnvOk R e a.tmps) (hg : GlobOk G R) {o : Operand} {n : Bool} (h : opv e (compO G o) = .bool n) : a.eval o = .bool n := by
  have := ev he hg h rfl
  simp only [conc, Option.some.injEq] at this
  exact this.symm
theorem ev_str (he : EnvOk R e a.tmps) (hg : GlobOk G R) {o : Operand} {l : BS} (h : opv e (compO G o) = .str l) : a.eval o = .string ⟨l.toList.toArray⟩ := by
  have := ev he hg h rfl
  simp only [conc, Option.some.injEq] at this
  exact this.symm
theorem ev_agg (he : EnvOk R e a.tmps) (hg : GlobOk G R) {o : Operand} {l : List V} (h : opv e (compO G o) = .agg l) : ∃ x, concs R l = some x ∧ a.eval o = .agg x.toArray := by
  exact conc_agg (ev he hg h rfl)
theorem ev_tup (he : EnvOk R e a.tmps) (hg : GlobOk G R) {o : Operand} {l : List V} (h : opv e (compO G o) = .tup l) : ∃ x, concs R l = some x ∧ a.eval o = .tuple x.toArray := by
  exact conc_tup (ev he hg h rfl)
theorem evs (he : EnvOk R e a.tmps) (hg : GlobOk G R) : ∀ (l : List Operand), (opvs e (l.map (compO G))).all V.live = true → concs R (opvs e (l.map (compO G))) = some (l.map a.eval)
  | [], _ => rfl
  | o :: l, h => by
    simp only [opvs, List.map_cons, List.all_cons, Bool.and_eq_true] at h
    exact concs_cons.2 ⟨_, _, ev he hg rfl h.1, evs he hg l (by simpa [opvs] using h.2), rfl⟩
end

/-! ### spl -/
theorem spl_length : ∀ (l : List V) (n : Nat) (cs : List V), (spl l n cs).length = l.length
  | l, n, [] => by cases l <;> simp [spl]
  | [], n, c :: cs => by simp [spl]
  | _ :: l, 0, c :: cs => by simp [spl, spl_length l 0 cs]
  | _ :: l, n + 1, c :: cs => by simp [spl, spl_length l n (c :: cs)]
theorem spl_get : ∀ (l : List V) (n : Nat) (cs : List V) (k : Nat), (spl l n cs)[k]? = if n ≤ k ∧ k < n + cs.length then (if k < l.length then cs[k - n]? else none) else l[k]?
  | l, n, [], k => by cases l <;> simp [spl] <;> omega
  | [], n, c :: cs, k => by simp [spl]
  | b :: l, 0, c :: cs, k => by
    cases k with
    | zero => simp [spl]
    | succ k => simp only [spl, List.getElem?_cons_succ, spl_get l 0 cs k, Nat.zero_le, true_and, List.length_cons, Nat.zero_add, Nat.sub_zero, Nat.add_lt_add_iff_right]
  | b :: l, n + 1, c :: cs, k => by
    cases k with
    | zero => simp [spl]
    | succ k =>
      simp only [spl, List.getElem?_cons_succ, spl_get l n (c :: cs) k, List.length_cons, Nat.add_le_add_iff_right, Nat.add_lt_add_iff_right, Nat.add_sub_add_right]
      by_cases h : n ≤ k ∧ k < n + (cs.length + 1)
      · rw [if_pos h, if_pos (show n ≤ k ∧ k + 1 < n + 1 + (cs.length + 1) by omega)]
      · rw [if_neg h, if_neg (show ¬ (n ≤ k ∧ k + 1 < n + 1 + (cs.length + 1)) by omega)]

/-! ### fill -/
theorem foldl_put (off : Nat) : ∀ (vs : List Value) (cs : Array Value) (i : Nat),
    ((vs.zipIdx i).foldl (fun cs (x : Value × Nat) => cs.setIfInBounds (off + x.2) x.1) cs).size = cs.size ∧
    ∀ k, ((vs.zipIdx i).foldl (fun cs (x : Value × Nat) => cs.setIfInBounds (off + x.2) x.1) cs)[k]? =
      if off + i ≤ k ∧ k < off + i + vs.length ∧ k < cs.size then vs[k - (off + i)]? else cs[k]?
  | [], cs, i => by
    refine ⟨rfl, fun k => ?_⟩
    rw [if_neg (by simp; omega)]
    rfl
  | v :: vs, cs, i => by
    obtain ⟨h1, h2⟩ := foldl_put off vs (cs.setIfInBounds (off + i) v) (i + 1)
    simp only [List.zipIdx_cons, List.foldl_cons]
    refine ⟨by rw [h1, Array.size_setIfInBounds], fun k => ?_⟩
    rw [h2, Array.size_setIfInBounds, Array.getElem?_setIfInBounds]
    by_cases hk : off + i = k
    · subst hk
      rw [if_neg (by omega), if_pos rfl]
      by_cases hs : off + i < cs.size
      · rw [if_pos hs, if_pos (by simp; omega)]; simp
      · rw [if_neg hs, if_neg (by omega), Array.getElem?_eq_none (by omega)]
    · rw [if_neg hk]
      by_cases hc : off + (i + 1) ≤ k ∧ k < off + (i + 1) + vs.length ∧ k < cs.size
      · rw [if_pos hc, if_pos (by simp; omega)]
        have : k - (off + i) = (k - (off + (i + 1))) + 1 := by omega
        rw [this, List.getElem?_cons_succ]
      · rw [if_neg hc, if_neg (by simp only [List.length_cons]; omega)]

theorem concs_spl {R : Ren} {z : List V} {arr : Array Value} (hz : concs R z = some arr.toList) {v : V} {x : Value} (hv : conc R v = some x) {off : Nat}
    (hle : off + v.cells.length ≤ z.length) :
    concs R (spl z off v.cells) = some ((x.cells.zipIdx).foldl (fun cs (c, j) => cs.setIfInBounds (off + j) c) arr).toList := by
  have hcs := conc_cells hv
  have hlen := concs_length hcs
  have hzl := concs_length hz
  have hf : (x.cells.zipIdx).foldl (fun cs (c, j) => cs.setIfInBounds (off + j) c) arr = ((x.cells.toList.zipIdx 0).foldl (fun cs (y : Value × Nat) => cs.setIfInBounds (off + y.2) y.1) arr) := by
    rw [← Array.foldl_toList, Array.toList_zipIdx]
  rw [hf]
  obtain ⟨h1, h2⟩ := foldl_put off x.cells.toList arr 0
  refine concs_of_get ?_ ?_
  · rw [spl_length, Array.length_toList, h1]; simpa using hzl
  · intro k u hk
    rw [spl_get] at hk
    rw [Array.getElem?_toList, h2]
    simp only [Nat.add_zero]
    simp only [Array.length_toList] at hlen hzl
    by_cases hc : off ≤ k ∧ k < off + v.cells.length
    · rw [if_pos hc, if_pos (by omega)] at hk
      obtain ⟨b, hb, hx⟩ := concs_get hcs hk
      refine ⟨b, hb, ?_⟩
      rw [if_pos (by simp only [Array.length_toList]; omega)]
      exact hx
    · rw [if_neg hc] at hk
      obtain ⟨b, hb, hx⟩ := concs_get hz hk
      refine ⟨b, hb, ?_⟩
      rw [if_neg (by simp only [Array.length_toList]; omega)]
      simpa using hx

section
variable {G : Nat → Bool} {R : Ren} {e : Env} {a : Act}
theorem fill_ok (he : EnvOk R e a.tmps) (hg : GlobOk G R) {place : Nat → Option (Nat × Nat)} : ∀ (ps : List (Nat × Operand)) (l : List (Nat × Nat × AO)) (z r : List V) (arr : Array Value),
    compParts G place ps = some l → concs R z = some arr.toList → fillA (parts e l) z = some r →
    ∃ out, Instr.fill place arr (ps.map fun (i, x) => (i, a.eval x)) = some out ∧ concs R r = some out.toList ∧ r.length = z.length
  | [], l, z, r, arr, hc, hz, hf => by
    simp only [compParts, Option.some.injEq] at hc; subst hc
    simp only [parts, List.map_nil, fillA, Option.some.injEq] at hf; subst hf
    exact ⟨arr, rfl, hz, rfl⟩
  | (i, x) :: ps, l, z, r, arr, hc, hz, hf => by
    simp only [compParts] at hc
    cases hp : place i with
    | none => rw [hp] at hc; cases hc
    | some os =>
      obtain ⟨off, size⟩ := os
      rw [hp] at hc
      cases hr : compParts G place ps with
      | none => rw [hr] at hc; cases hc
      | some l' =>
        rw [hr] at hc
        simp only [Option.some.injEq] at hc; subst hc
        simp only [parts, List.map_cons, fillA] at hf
        split at hf
        · rename_i hcond
          simp only [Bool.and_eq_true, Nat.beq_eq, Nat.ble_eq] at hcond
          obtain ⟨⟨hl, hs⟩, hb⟩ := hcond
          have hv := ev (a := a) he hg rfl hl
          have hcs := conc_cells hv
          have hlen := concs_length hcs
          have hzl := concs_length hz
          simp only [Array.length_toList] at hlen hzl
          obtain ⟨out, h1, h2, h3⟩ := fill_ok he hg ps l' _ r _ hr (concs_spl hz hv (off := off) (by omega)) hf
          refine ⟨out, ?_, h2, by rw [h3, spl_length]⟩
          simp only [List.map_cons, Instr.fill, hp]
          rw [if_neg (by simp; omega)]
          exact h1
        · cases hf
end
end Go.Og
