/- Rules to reason by hand about the plain functions: what is read, written and made in an abstract heap. Plain lemmas, no program. -/
import Derived.Test.YtjolbidcficdhaaDoorOgZ
set_option linter.all false
namespace Go.Og
noncomputable section

theorem ble_of {a b : Nat} (h : a ≤ b) : Nat.ble a b = true := by rw [Nat.ble_eq]; exact h
/-- The block b holds these cells. -/
def Atc (σ : H) (b : Nat) (l : List V) : Prop := lookF σ.bl b = some (.cells l)
/-- No block beyond the next number. -/
def Tidy (σ : H) : Prop := ∀ b, σ.next ≤ b → lookF σ.bl b = none
/-- What was there is as it was, but for the blocks of S. -/
structure Fr (S : Nat → Prop) (σ σ' : H) : Prop where
  tidy : Tidy σ'
  le : σ.next ≤ σ'.next
  same : ∀ b, b < σ.next → ¬ S b → lookF σ'.bl b = lookF σ.bl b
def Nowhere : Nat → Prop := fun _ => False
/-- The block that a slice lies in. -/
def Names (v : V) (b : Nat) : Prop := match v with
  | .sl b' _ _ _ => b = b'
  | _ => False

section
variable {E : List (Nat × Blk)} {σ σ' σ'' : H} {b b' : Nat} {l m : List V} {S T : Nat → Prop}
theorem Atc.lt (h : Atc σ b l) (ht : Tidy σ) : b < σ.next := by
  rcases Nat.lt_or_ge b σ.next with hl | hl
  · exact hl
  · have := ht b hl; rw [show lookF σ.bl b = some (.cells l) from h] at this; cases this
theorem Atc.uniq (h : Atc σ b l) (k : Atc σ b m) : l = m := by
  have := (show lookF σ.bl b = some (.cells l) from h).symm.trans k
  cases this; rfl
theorem Fr.refl (ht : Tidy σ) : Fr S σ σ := ⟨ht, Nat.le_refl _, fun _ _ _ => rfl⟩
theorem Fr.mono (h : Fr S σ σ') (hs : ∀ b, b < σ.next → S b → T b) : Fr T σ σ' := ⟨h.tidy, h.le, fun b hb hn => h.same b hb fun hS => hn (hs b hb hS)⟩
theorem Fr.trans (h : Fr S σ σ') (k : Fr T σ' σ'') (hT : ∀ b, b < σ.next → T b → S b) : Fr S σ σ'' :=
  ⟨k.tidy, Nat.le_trans h.le k.le, fun b hb hn => (k.same b (Nat.lt_of_lt_of_le hb h.le) fun hT' => hn (hT b hb hT')).trans (h.same b hb hn)⟩
theorem Fr.at_ (h : Fr S σ σ') (ha : Atc σ b l) (ht : Tidy σ) (hn : ¬ S b) : Atc σ' b l := (h.same b (ha.lt ht) hn).trans ha
theorem Fr.at_back (h : Fr S σ σ') (ha : Atc σ' b l) (hb : b < σ.next) (hn : ¬ S b) : Atc σ b l := (h.same b hb hn).symm.trans ha

theorem lookF_drop1_ne (l : List (Nat × Blk)) (h : b ≠ b') : lookF (drop1 l b) b' = lookF l b' := by
  rw [lookF_eq, lookF_eq]; exact look_drop1 l b b' h
theorem lookF_setF (c : Blk) (k : Nat) : lookF (setF σ b c).bl k = if b = k then some c else lookF σ.bl k := by
  rw [lookF_eq, lookF_eq]; exact look_setF σ b c k
theorem Atc_setF (m : List V) : Atc (setF σ b (.cells m)) b m := by
  show lookF _ _ = _
  rw [lookF_setF, if_pos rfl]
theorem Fr.set (ht : Tidy σ) (hb : b < σ.next) (c : Blk) : Fr (fun k => k = b) σ (setF σ b c) := by
  refine ⟨fun k hk => ?_, Nat.le_refl _, fun k hk hn => ?_⟩
  · have hk' : σ.next ≤ k := hk
    rw [lookF_setF, if_neg (by omega)]; exact ht k hk'
  · rw [lookF_setF, if_neg (fun h => hn h.symm)]
theorem Atc_newB (l : List V) : Atc (newB σ (.cells l)) σ.next l := by
  show lookF ((σ.next, Blk.cells l) :: σ.bl) _ = _
  rw [lookF_cons, if_pos rfl]
theorem Fr.new (ht : Tidy σ) (c : Blk) : Fr S σ (newB σ c) := by
  refine ⟨fun k hk => ?_, Nat.le_succ _, fun k hk hn => ?_⟩
  · have hk' : σ.next + 1 ≤ k := hk
    show lookF ((σ.next, c) :: σ.bl) _ = _
    rw [lookF_cons, if_neg (by omega)]; exact ht k (by omega)
  · show lookF ((σ.next, c) :: σ.bl) _ = _
    rw [lookF_cons, if_neg (by omega)]
theorem newB_next (c : Blk) : (newB σ c).next = σ.next + 1 := rfl
theorem setF_next (c : Blk) : (setF σ b c).next = σ.next := rfl

/-! ### what is read and written -/
theorem rdK_at {κ : List V → Ans} (h : Atc σ b l) : rdK E σ b κ = κ l := by unfold rdK; rw [show lookF σ.bl b = some (.cells l) from h]
theorem nthK_of {κ : V → Ans} {o : Nat} {v : V} (h : nthF l o = some v) : nthK l o κ = κ v := by unfold nthK; rw [h]
theorem ldK_at {κ : V → Ans} {o : Nat} {v : V} (h : Atc σ b l) (hv : nthF l o = some v) : ldK E σ b o κ = κ v := (rdK_at h).trans (nthK_of hv)
theorem ldK_get {κ : V → Ans} {o : Nat} {v : V} (h : Atc σ b l) (hv : l[o]? = some v) : ldK E σ b o κ = κ v := ldK_at h (by rw [nthF_eq]; exact hv)
theorem subK_of {κ : List V → Ans} {o n : Nat} (h : o + n ≤ l.length) : subK l o n κ = κ ((l.drop o).take n) := by
  unfold subK; rw [show Nat.ble (Nat.add o n) l.length = true from ble_of h]
theorem ldnK_at {κ : List V → Ans} {o n : Nat} (h : Atc σ b l) (hl : o + n ≤ l.length) : ldnK E σ b o n κ = κ ((l.drop o).take n) := (rdK_at h).trans (subK_of hl)
theorem chk_true {c : Bool} {a : Ans} (h : c = true) : chk c a = a := by rw [h]; rfl
theorem stK_at {κ : H → Ans} {n o : Nat} {v : V} (h : Atc σ b l) (hc : (Nat.beq v.cells.length n && Nat.ble (Nat.add o n) l.length && allOne v.cells) = true) : stK n b o v σ κ = κ (setF σ b (.cells (spl l o v.cells))) := by
  unfold stK; rw [show lookF σ.bl b = some (.cells l) from h]; exact chk_true hc
theorem callK_of {x : Ans} {κ : V → H → Ans} {v : V} (h : x = some (v, σ)) : callK x κ = κ v σ := by rw [h]; rfl

/-! ### numbers -/
theorem ltF_nat (m n : Nat) : ltF (Int.ofNat m) (Int.ofNat n) = decide (m < n) := by
  rw [ltF_eq]; simp
theorem leF_nat (m n : Nat) : leF (Int.ofNat m) (Int.ofNat n) = decide (m ≤ n) := by
  rw [leF_eq]; simp
theorem eqF_nat (m n : Nat) : eqF (Int.ofNat m) (Int.ofNat n) = decide (m = n) := by
  rw [eqF_eq]; rw [Bool.eq_iff_iff]; simp only [beq_iff_eq, decide_eq_true_eq]; exact ⟨fun h => Int.ofNat.inj h, fun h => by rw [h]⟩
theorem wrapF_nat {k : IntKind} {m : Nat} (h : m ≤ maxN k) : wrapF k (Int.ofNat m) = Int.ofNat m :=
  (wrapF_eq _ _).trans (wrap_in (show Nat.ble m (maxN k) = true from ble_of h))
theorem addF_nat {m n : Nat} (h : m + n ≤ 9223372036854775807) : addF .i64 (Int.ofNat m) (Int.ofNat n) = Int.ofNat (m + n) := by
  exact wrapF_nat (k := .i64) (m := m + n) h
theorem subF_nat {m n : Nat} (h : n ≤ m) (hm : m ≤ 9223372036854775807) : subF .i64 (Int.ofNat m) (Int.ofNat n) = Int.ofNat (m - n) := by
  have e : Int.sub (Int.ofNat m) (Int.ofNat n) = Int.ofNat (m - n) := by
    show (m : Int) - (n : Int) = ((m - n : Nat) : Int)
    omega
  show wrapF .i64 (Int.sub (Int.ofNat m) (Int.ofNat n)) = _
  rw [e]
  exact wrapF_nat (k := .i64) (show m - n ≤ 9223372036854775807 by omega)
theorem idxStrX_nat {s : BS} {i : Nat} {κ : Int → Ans} (h : i < s.len) : idxStrX s (Int.ofNat i) κ = κ (Int.ofNat (s.get i)) := by
  show chk (Nat.blt i s.len) _ = _
  exact chk_true (by simpa [Nat.blt_eq] using h)
theorem sliceStrX_from {s : BS} {i : Nat} {κ : BS → Ans} (h : i ≤ s.len) : sliceStrX s (some (.int .i64 (Int.ofNat i))) none κ = κ (s.sub i s.len) := by
  show chk (Nat.ble i s.len && Nat.ble s.len s.len) _ = _
  exact chk_true (by simp [Nat.ble_eq, h])
theorem sliceStrX_to {s : BS} {i : Nat} {κ : BS → Ans} (h : i ≤ s.len) : sliceStrX s none (some (.int .i64 (Int.ofNat i))) κ = κ (s.sub 0 i) := by
  show chk (Nat.ble 0 i && Nat.ble i s.len) _ = _
  exact chk_true (by simp [Nat.ble_eq, h])
theorem sliceStrX_both {s : BS} {i j : Nat} {κ : BS → Ans} (h : i ≤ j) (hj : j ≤ s.len) : sliceStrX s (some (.int .i64 (Int.ofNat i))) (some (.int .i64 (Int.ofNat j))) κ = κ (s.sub i j) := by
  show chk (Nat.ble i j && Nat.ble j s.len) _ = _
  exact chk_true (by simp [Nat.ble_eq, h, hj])

/-! ### slices that grow -/
/-- A slice of k elements that grows by append. -/
def Sl (σ : H) (esz k : Nat) (v : V) (l : List V) : Prop := (k = 0 ∧ v = .nils ∧ l = []) ∨ (∃ b, v = .sl b 0 k (.op esz) ∧ Atc σ b l ∧ 0 < k ∧ l.length = k * esz)
theorem Sl.nil (σ : H) (esz : Nat) : Sl σ esz 0 .nils [] := .inl ⟨rfl, rfl, rfl⟩
theorem Sl.length {esz k : Nat} {v : V} (h : Sl σ esz k v l) : l.length = k * esz := by
  rcases h with ⟨rfl, _, rfl⟩ | ⟨b, _, _, _, h⟩
  · simp
  · exact h
theorem Sl.fr {esz k : Nat} {v : V} (h : Sl σ esz k v l) (f : Fr S σ σ') (ht : Tidy σ) (hn : ∀ b, Names v b → ¬ S b) : Sl σ' esz k v l := by
  rcases h with h | ⟨b, rfl, ha, hk, hl⟩
  · exact .inl h
  · exact .inr ⟨b, rfl, f.at_ ha ht (hn b rfl), hk, hl⟩
theorem Sl.one {esz k : Nat} {v : V} (h : Sl σ esz k v l) : v.one = true := by
  rcases h with ⟨_, rfl, _⟩ | ⟨b, rfl, _⟩ <;> rfl
theorem Sl.slen {esz k : Nat} {v : V} {κ : Nat → Ans} (h : Sl σ esz k v l) : slenK v κ = κ k := by
  rcases h with ⟨rfl, rfl, _⟩ | ⟨b, rfl, _⟩ <;> rfl
theorem Sl.lt {esz k : Nat} {v : V} (h : Sl σ esz k v l) (ht : Tidy σ) (hb : Names v b) : b < σ.next := by
  rcases h with ⟨_, rfl, _⟩ | ⟨c, rfl, ha, _⟩
  · exact hb.elim
  · cases hb; exact ha.lt ht
theorem srcK_ex {esz n xb xo : Nat} {c' : Cap} {κ : Nat → List V → Ans} (h : Atc σ xb m) (hl : xo + n * esz ≤ m.length) : srcK E σ esz (.sl xb xo n c') κ = κ n ((m.drop xo).take (n * esz)) :=
  (rdK_at h).trans (subK_of hl)
theorem toStrK_sl {b o n : Nat} {c : Cap} {κ : BS → Ans} : toStrK E σ (.sl b o n c) κ = srcK E σ 1 (.sl b o n c) fun _ l => match bytesOf l with | some s => κ (BS.ofList s) | none => none := rfl
theorem rtOne_sl {b o n : Nat} {c : Cap} {a : Ans} : rtOne (.sl b o n c) a = a := rfl
theorem iaddrSK_lt {esz b o n i : Nat} {c : Cap} {κ : Nat → Nat → Ans} (h : i < n) : iaddrSK esz (.sl b o n c) (Int.ofNat i) κ = κ b (Nat.add o (Nat.mul i esz)) := by
  show chk (Nat.blt i n) _ = _
  exact chk_true (by simpa [Nat.blt_eq] using h)
theorem lookF_drop (l : List (Nat × Blk)) (id id' : Nat) : lookF (drop l id) id' = if id = id' then none else lookF l id' := by
  rw [lookF_eq, lookF_eq]; exact look_drop l id id'
/-- One element more. -/
theorem app_one {esz bytes k xb : Nat} {v : V} (h : Sl σ esz k v l) (ht : Tidy σ) (hx : Atc σ xb m) (hm : m.length = esz) (ho : allOne m = true) (hg : growable (k + 1) bytes = true) :
    ∃ σ', (∀ κ : V → H → Ans, appK E esz bytes v (.sl xb 0 1 (.ex 1)) σ κ = κ (.sl σ.next 0 (k + 1) (.op esz)) σ') ∧ Atc σ' σ.next (l ++ m) ∧ σ'.next = σ.next + 1 ∧ Fr (Names v) σ σ' := by
  have e1 : ((m.drop 0).take (1 * esz)) = m := by rw [List.drop_zero, Nat.one_mul, ← hm, List.take_length]
  have hs : ∀ κ' : Nat → List V → Ans, srcK E σ esz (.sl xb 0 1 (.ex 1)) κ' = κ' 1 m := fun κ' => by
    have := srcK_ex (E := E) (σ := σ) (esz := esz) (n := 1) (c' := .ex 1) (xb := xb) (xo := 0) (κ := κ') hx (by omega)
    rw [this, e1]
  rcases h with ⟨rfl, rfl, rfl⟩ | ⟨b, rfl, ha, hk, hl⟩
  · refine ⟨newB σ (.cells m), fun κ => ?_, Atc_newB m, rfl, Fr.new ht _⟩
    show srcK E σ esz _ _ = _
    rw [hs]
    show callK (appendV E esz bytes .nils (.sl xb 0 1 (.ex 1)) σ) κ = _
    have hc : srcCells E σ esz (.sl xb 0 1 (.ex 1)) = some (1, m) := by
      show (rdN E σ xb 0 (1 * esz)).map _ = _
      unfold rdN rd
      rw [← lookF_eq, show lookF σ.bl xb = some (.cells m) from hx]
      simp only []
      rw [show Nat.ble (0 + 1 * esz) m.length = true from ble_of (by omega)]
      simp only [if_true, Option.map_some]
      rw [e1]
    unfold appendV
    rw [hc]
    simp only []
    rw [if_neg (by decide), show growable 1 bytes = true from hg]
    rfl
  · refine ⟨⟨σ.next + 1, (σ.next, .cells (l ++ m)) :: drop σ.bl b⟩, fun κ => ?_, ?_, rfl, ?_⟩
    · show srcK E σ esz _ _ = _
      rw [hs]
      show (match lookF σ.bl b with
        | some (.cells l) => chk (Nat.beq l.length (k * esz) && Nat.beq esz esz && growable (k + 1) bytes && allOne m) (forceD σ.bl b fun bl' => κ (.sl σ.next 0 (k + 1) (.op esz)) ⟨σ.next + 1, (σ.next, .cells (l ++ m)) :: bl'⟩)
        | _ => none) = _
      rw [show lookF σ.bl b = some (.cells l) from ha]
      simp only []
      rw [chk_true (by rw [hg, ho, hl]; simp), forceD_eq]
    · show lookF ((σ.next, Blk.cells (l ++ m)) :: _) _ = _
      rw [lookF_cons, if_pos rfl]
    · refine ⟨fun k' hk' => ?_, Nat.le_succ _, fun k' hk' hn => ?_⟩
      · have hk2 : σ.next + 1 ≤ k' := hk'
        show lookF ((σ.next, _) :: drop σ.bl b) k' = none
        rw [lookF_cons, if_neg (by simp only []; omega), lookF_drop]
        split
        · rfl
        · exact ht k' (by omega)
      · show lookF ((σ.next, _) :: drop σ.bl b) k' = _
        rw [lookF_cons, if_neg (by simp only []; omega), lookF_drop, if_neg]
        intro hbk
        exact hn hbk.symm
end
/-! ### texts as lists of numbers -/
theorem rtInt_int (k : IntKind) (n : Int) (κ : Int → Ans) : rtInt k (.int k n) κ = κ n := by simp [rtInt]
theorem rtBool_bool (b : Bool) (κ : Bool → Ans) : rtBool (.bool b) κ = κ b := rfl
theorem rtStr_str (s : BS) (κ : BS → Ans) : rtStr (.str s) κ = κ s := rfl
theorem rtPtr_ptr (b o : Nat) (κ : Nat → Nat → Ans) : rtPtr (.ptr b o) κ = κ b o := rfl
theorem rtAgg_agg (l : List V) (κ : List V → Ans) : rtAgg (.agg l) κ = κ l := rfl
theorem rtTup_tup (l : List V) (κ : List V → Ans) : rtTup (.tup l) κ = κ l := rfl
theorem rtCons_cons (v : V) (l : List V) (κ : V → List V → Ans) : rtCons (v :: l) κ = κ v l := rfl
theorem rtNil_nil (a : Ans) : rtNil [] a = a := rfl
theorem callK_some_ (v : V) (σ : H) (κ : V → H → Ans) : callK (some (v, σ)) κ = κ v σ := rfl
theorem joinB_ (f : Bool → H → Ans) (g : (Bool → H → Ans) → Ans) : joinB f g = g f := rfl

def BS.nats (s : BS) : List Nat := s.toList.map UInt8.toNat
theorem BS.length_nats (s : BS) : s.nats.length = s.len := by simp [BS.nats, BS.length_toList]
theorem BS.nats_get {s : BS} {i : Nat} (h : i < s.len) : s.nats[i]? = some (s.get i) := by
  simp only [BS.nats, List.getElem?_map, BS.getElem?_toList, if_pos h, Option.map_some, UInt8.toNat_ofNat']
  rw [Nat.mod_eq_of_lt (s.get_lt i)]
theorem BS.nats_lt (s : BS) : ∀ c ∈ s.nats, c < 256 := by
  intro c hc
  simp only [BS.nats, List.mem_map] at hc
  obtain ⟨u, _, rfl⟩ := hc
  exact u.toNat_lt
theorem BS.nats_cat (a b : BS) : (a.cat b).nats = a.nats ++ b.nats := by simp [BS.nats, BS.toList_cat]
theorem BS.nats_sub {s : BS} {lo hi : Nat} (h : hi ≤ s.len) : (s.sub lo hi).nats = (s.nats.drop lo).take (hi - lo) := by
  simp [BS.nats, BS.toList_sub h]
theorem nats_inj {l m : List UInt8} (h : l.map UInt8.toNat = m.map UInt8.toNat) : l = m := by
  have hm := congrArg (List.map UInt8.ofNat) h
  simpa [List.map_map, Function.comp_def] using hm
theorem BS.beq_nats (a b : BS) : a.beq b = decide (a.nats = b.nats) := by
  rw [BS.beq_eq]
  rw [Bool.eq_iff_iff]
  simp only [decide_eq_true_eq]
  exact ⟨fun h => by rw [BS.nats, h, ← BS.nats], fun h => nats_inj h⟩
def BS.canon (s : BS) : Prop := s.val < 2 ^ (8 * s.len)
theorem BS.canon_low {s : BS} (h : s.canon) : s.low = s.val := Nat.mod_eq_of_lt h
theorem BS.canon_ext {a b : BS} (ha : a.canon) (hb : b.canon) (h : a.nats = b.nats) : a = b := by
  have ht := nats_inj h
  obtain ⟨hl, hg⟩ := BS.get_eq ht
  have := (BS.low_eq hl).2 hg
  rw [BS.canon_low ha, BS.canon_low hb] at this
  cases a; cases b
  simp only [] at hl this
  subst hl; subst this; rfl
theorem BS.sub_canon (s : BS) (lo hi : Nat) : (s.sub lo hi).canon := Nat.mod_lt _ (Nat.pow_pos (by decide))
def ofN : List Nat → BS
  | [] => ⟨0, 0⟩
  | c :: l => ⟨Nat.succ (ofN l).len, Nat.add c (Nat.mul 256 (ofN l).val)⟩
theorem ofN_eq : ∀ {l : List Nat}, (∀ c ∈ l, c < 256) → ofN l = BS.ofList (l.map UInt8.ofNat)
  | [], _ => rfl
  | c :: l, h => by
    have hc : (UInt8.ofNat c).toNat = c := by simp only [UInt8.toNat_ofNat']; exact Nat.mod_eq_of_lt (h c (by simp))
    have ih := ofN_eq (l := l) (fun d hd => h d (List.mem_cons_of_mem _ hd))
    show BS.mk (Nat.succ (ofN l).len) (Nat.add c (Nat.mul 256 (ofN l).val)) = BS.mk (Nat.succ (BS.ofList (l.map UInt8.ofNat)).len) (Nat.add (UInt8.ofNat c).toNat (Nat.mul 256 (BS.ofList (l.map UInt8.ofNat)).val))
    rw [ih, hc]
theorem ofN_len : ∀ l : List Nat, (ofN l).len = l.length
  | [] => rfl
  | c :: l => by simp [ofN, ofN_len l]
theorem ofN_nats {l : List Nat} (h : ∀ c ∈ l, c < 256) : (ofN l).nats = l := by
  rw [ofN_eq h]
  apply List.ext_getElem?
  intro i
  by_cases hi : i < l.length
  · have hl : (BS.ofList (l.map UInt8.ofNat)).len = l.length := by rw [BS.len_ofList, List.length_map]
    rw [BS.nats_get (by omega)]
    have hc : (l.map UInt8.ofNat)[i]? = some (UInt8.ofNat l[i]) := by simp [hi]
    rw [BS.get_ofList _ _ _ hc]
    simp only [UInt8.toNat_ofNat', List.getElem?_eq_getElem hi]
    rw [Nat.mod_eq_of_lt (h _ (List.getElem_mem hi))]
  · rw [List.getElem?_eq_none (by rw [BS.length_nats, BS.len_ofList, List.length_map]; omega), List.getElem?_eq_none (by omega)]
theorem ofN_canon : ∀ {l : List Nat}, (∀ c ∈ l, c < 256) → (ofN l).canon
  | [], _ => by show 0 < 2 ^ (8 * 0); decide
  | c :: l, h => by
    have ih : (ofN l).val < 2 ^ (8 * (ofN l).len) := ofN_canon (fun d hd => h d (by simp [hd]))
    have hc := h c (by simp)
    show c + 256 * (ofN l).val < 2 ^ (8 * ((ofN l).len + 1))
    have e : 2 ^ (8 * ((ofN l).len + 1)) = 256 * 2 ^ (8 * (ofN l).len) := by
      rw [Nat.mul_add, Nat.pow_add]; simp [Nat.mul_comm]
    rw [e]; omega
theorem sub_ofN {s : BS} {lo hi : Nat} (h : hi ≤ s.len) : s.sub lo hi = ofN ((s.nats.drop lo).take (hi - lo)) := by
  have hb : ∀ c ∈ (s.nats.drop lo).take (hi - lo), c < 256 := fun c hc => s.nats_lt c (List.mem_of_mem_drop (List.mem_of_mem_take hc))
  exact BS.canon_ext (s.sub_canon lo hi) (ofN_canon hb) (by rw [BS.nats_sub h, ofN_nats hb])

/-- From the place i on the text reads r. -/
def Rst (s : BS) (i : Nat) (r : List Nat) : Prop := i ≤ s.len ∧ s.nats.drop i = r
section
variable {s : BS} {i : Nat} {r : List Nat}
theorem Rst.start (s : BS) : Rst s 0 s.nats := ⟨Nat.zero_le _, rfl⟩
theorem Rst.len (h : Rst s i r) : i + r.length = s.len := by
  have := congrArg List.length h.2
  rw [List.length_drop, BS.length_nats] at this
  have := h.1; omega
theorem Rst.bd (h : Rst s i r) : ∀ c ∈ r, c < 256 := fun c hc => s.nats_lt c (List.mem_of_mem_drop (h.2 ▸ hc))
theorem Rst.drop (h : Rst s i r) {k : Nat} (hk : k ≤ r.length) : Rst s (i + k) (r.drop k) := by
  refine ⟨by have := h.len; omega, ?_⟩
  rw [← h.2, List.drop_drop]
theorem Rst.tail {c : Nat} (h : Rst s i (c :: r)) : Rst s (i + 1) r := h.drop (k := 1) (by simp)
theorem Rst.get? (h : Rst s i r) (k : Nat) : r[k]? = if i + k < s.len then some (s.get (i + k)) else none := by
  rw [← h.2, List.getElem?_drop]
  by_cases hk : i + k < s.len
  · rw [if_pos hk, BS.nats_get hk]
  · rw [if_neg hk, List.getElem?_eq_none (by rw [BS.length_nats]; omega)]
theorem Rst.getD_lt (h : Rst s i r) {k : Nat} (hk : i + k < s.len) : r.getD k 0 = s.get (i + k) := by
  rw [List.getD_eq_getElem?_getD, h.get?, if_pos hk]; rfl
theorem Rst.getD_ge (h : Rst s i r) {k : Nat} (hk : ¬ i + k < s.len) : r.getD k 0 = 0 := by
  rw [List.getD_eq_getElem?_getD, h.get?, if_neg hk]; rfl
theorem Rst.sub (h : Rst s i r) {k : Nat} (hk : k ≤ r.length) : s.sub i (i + k) = ofN (r.take k) := by
  have := h.len
  rw [sub_ofN (by omega), h.2, Nat.add_sub_cancel_left]
theorem Rst.subAll (h : Rst s i r) : s.sub i s.len = ofN r := by
  have := h.len
  rw [show s.len = i + r.length by omega, h.sub (Nat.le_refl _), List.take_length]
end
end
end Go.Og
