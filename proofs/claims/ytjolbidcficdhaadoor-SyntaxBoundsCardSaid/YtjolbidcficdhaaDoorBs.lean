/- The parser's bounds and size over a list of signs. -/
import Derived.Test.YtjolbidcficdhaaDoorPy
set_option linter.all false
set_option maxRecDepth 100000
namespace Go.Proofs.YtjolbidcficdhaaDoor
open Go Go.Og
noncomputable section
/-- A type's node, with bounds. -/
def nd (k : Nat) (has hl hh mo : Bool) (lo hi : Int) (on : Nat) : List V := [.int .i64 (Int.ofNat k), .str ⟨0, 0⟩, .bool false, .int .i64 (Int.ofNat 0), .int .i64 (Int.ofNat 0), .bool has, .bool hl, .bool hh, .bool mo, .int .i64 lo, .int .i64 hi, .nils, .nils, .int .i64 (Int.ofNat 0), .bool false, .int .i64 (Int.ofNat on)]
/-- The parser, and a block that it writes. -/
structure Cx (σ : H) (p tb : Nat) (ts : List Tk) (j : Nat) (m : List V) (cb : Nat) (L : List V) : Prop where
  x : Px σ p tb ts j m
  c : Atc σ cb L
  np : cb ≠ p
  nt : cb ≠ tb
section
variable {D : Den} {W : DrawFn} {N : Nat} {σ : H} {p tb j cb : Nat} {ts : List Tk} {m L : List V} {t : Tk} {s : BS}
theorem Cx.isT (h : Cx σ p tb ts j m cb L) (hI : SpIs (D 43)) (ht : ts[j]? = some t) (hs : stB t s = true) : ∃ σ', D 43 [.ptr p 0, .str s] σ = some (.bool true, σ') ∧ Cx σ' p tb ts (j + 1) m cb L ∧ Fr (fun k => k = p ∨ k = cb) σ σ' := by
  have i := hI σ p tb j ts _ t s h.x ht
  rw [hs] at i
  have f := h.x.setFr (j + 1) m
  exact ⟨_, i, ⟨h.x.set (j + 1) m, f.at_ h.c h.x.tidy h.np, h.np, h.nt⟩, (Fr.refl h.x.tidy).trans f (fun _ _ h => Or.inl h)⟩
theorem Cx.isF (h : Cx σ p tb ts j m cb L) (hI : SpIs (D 43)) (ht : ts[j]? = some t) (hs : stB t s = false) : D 43 [.ptr p 0, .str s] σ = some (.bool false, σ) := by
  have i := hI σ p tb j ts _ t s h.x ht
  rw [hs] at i
  exact i
theorem Cx.num (h : Cx σ p tb ts j m cb L) (hN : SpPNum (D 73)) {w : List Nat} {a : Nat} {v : Int} (ht : ts[j]? = some (3, w, a)) (hw : NumOk w v) : ∃ σ', D 73 [.ptr p 0] σ = some (.tup [.int .i64 v, tokV (3, w, a), .bool true], σ') ∧ Cx σ' p tb ts (j + 1) m cb L ∧ Fr (fun k => k = p ∨ k = cb) σ σ' := by
  obtain ⟨σ', g, x, f⟩ := hN σ p tb j ts m w a v h.x ht hw
  exact ⟨σ', g, ⟨x, f.at_ h.c h.x.tidy h.np, h.np, h.nt⟩, (Fr.refl h.x.tidy).trans f (fun _ _ h => Or.inl h)⟩
theorem Cx.st (h : Cx σ p tb ts j m cb L) (o : Nat) (v : V) (hc : (Nat.beq v.cells.length 1 && Nat.ble (Nat.add o 1) L.length && allOne v.cells) = true) : ∃ σ', (∀ κ, stK 1 cb o v σ κ = κ σ') ∧ Cx σ' p tb ts j m cb (spl L o v.cells) ∧ Fr (fun k => k = p ∨ k = cb) σ σ' := by
  have f := Fr.set h.x.tidy (h.c.lt h.x.tidy) (.cells (spl L o v.cells))
  exact ⟨_, fun κ => stK_at h.c hc, ⟨h.x.fr f (fun e => h.np e.symm) (fun e => h.nt e.symm), Atc_setF _, h.np, h.nt⟩, (Fr.refl h.x.tidy).trans f (fun _ _ h => Or.inr h)⟩
theorem Cx.ld (h : Cx σ p tb ts j m cb L) {o : Nat} {v : V} (hv : nthF L o = some v) (κ : V → Ans) : ldK [] σ cb o κ = κ v := ldK_at h.c hv
theorem Cx.new (h : Cx σ p tb ts j m cb L) (z : List V) : ∃ σ', newB σ (.cells z) = σ' ∧ Cx σ' p tb ts j m cb L ∧ Atc σ' σ.next z ∧ σ.next ≠ p ∧ σ.next ≠ cb ∧ Fr (fun k => k = p ∨ k = cb) σ σ' := by
  have f : Fr Nowhere σ (newB σ (.cells z)) := Fr.new h.x.tidy _
  have l1 := h.x.lt; have l2 := h.c.lt h.x.tidy
  exact ⟨_, rfl, ⟨h.x.fr f (fun h => h) (fun h => h), f.at_ h.c h.x.tidy (fun h => h), h.np, h.nt⟩, Atc_newB _, by omega, by omega, (Fr.refl h.x.tidy).trans f (fun _ _ h => h.elim)⟩
theorem Cx.want (h : Cx σ p tb ts j m cb L) (hW : SpWant (D 21)) {sb : Nat} {l : List BS} (ha : Atc σ sb (l.map .str)) (hn : sb ≠ p) (hs : Stand ts j l) (hl : l.length ≤ 5) : ∃ σ', D 21 [.ptr p 0, .sl sb 0 l.length (.ex l.length)] σ = some (.bool true, σ') ∧ Cx σ' p tb ts (j + l.length) m cb L ∧ Fr (fun k => k = p ∨ k = cb) σ σ' := by
  obtain ⟨σ', g, x, f⟩ := hW σ p tb j sb ts m l h.x ha hn hs hl
  exact ⟨σ', g, ⟨x, f.at_ h.c h.x.tidy h.np, h.np, h.nt⟩, (Fr.refl h.x.tidy).trans f (fun _ _ h => Or.inl h)⟩
/-- The step from one state of the parser and that block to another. -/
def To (F : H → Ans) (G : H → Ans) (p tb : Nat) (ts : List Tk) (j j' : Nat) (m : List V) (cb : Nat) (L L' : List V) : Prop :=
  ∀ σ, Cx σ p tb ts j m cb L → ∃ σ', F σ = G σ' ∧ Cx σ' p tb ts j' m cb L' ∧ Fr (fun k => k = p ∨ k = cb) σ σ'
theorem To.trans {F G H' : H → Ans} {j' j'' : Nat} {L' L'' : List V} (a : To F G p tb ts j j' m cb L L') (b : To G H' p tb ts j' j'' m cb L' L'') : To F H' p tb ts j j'' m cb L L'' := fun σ h =>
  let ⟨σ1, e1, h1, f1⟩ := a σ h
  let ⟨σ2, e2, h2, f2⟩ := b σ1 h1
  ⟨σ2, e1.trans e2, h2, f1.trans f2 (fun _ _ h => h)⟩
/-- The low bound: none. -/
theorem low_min (hI : SpIs (D 43)) {k on : Nat} (ht : ts[j]? = some t) (hs : stB t (BS.mk 3 5130573) = true) :
    To (J64_0 [] D W N p 0 cb 5) (J64_1 [] D W N p 0 cb 5) p tb ts j (j + 1) m cb (nd k false false false false (Int.ofNat 0) (Int.ofNat 0) on) (nd k true false false false (Int.ofNat 0) (Int.ofNat 0) on) := by
  intro σ h
  obtain ⟨σ1, e1, h1, f1⟩ := h.st 5 (.bool true) rfl
  obtain ⟨σ2, e2, h2, f2⟩ := h1.isT hI ht hs
  refine ⟨σ2, ?_, h2, f1.trans f2 (fun _ _ h => h)⟩
  show T64_0 [] D W (J64_1 [] D W N) p 0 cb 5 σ = _
  simp only [T64_0, e1, e2, callK_some_, rtBool_bool, Bool.not_true, condK_false]
/-- The low bound: a number. -/
theorem low_num (hI : SpIs (D 43)) (hN : SpPNum (D 73)) {k on a : Nat} {w : List Nat} {v : Int} (ht : ts[j]? = some (3, w, a)) (hw : NumOk w v) :
    To (J64_0 [] D W N p 0 cb 5) (J64_1 [] D W N p 0 cb 5) p tb ts j (j + 1) m cb (nd k false false false false (Int.ofNat 0) (Int.ofNat 0) on) (nd k true true false false v (Int.ofNat 0) on) := by
  intro σ h
  obtain ⟨σ1, e1, h1, f1⟩ := h.st 5 (.bool true) rfl
  have e2 := h1.isF (s := BS.mk 3 5130573) hI ht rfl
  obtain ⟨σ3, e3, h3, f3⟩ := h1.num hN ht hw
  obtain ⟨σ4, e4, h4, f4⟩ := h3.st (Nat.add 5 1) (.bool true) rfl
  obtain ⟨σ5, e5, h5, f5⟩ := h4.st (Nat.add 5 4) (.int .i64 v) rfl
  refine ⟨σ5, ?_, h5, ((f1.trans f3 (fun _ _ h => h)).trans f4 (fun _ _ h => h)).trans f5 (fun _ _ h => h)⟩
  show T64_0 [] D W (J64_1 [] D W N) p 0 cb 5 σ = _
  simp only [T64_0, e1, e2, e3, e4, e5, callK_some_, rtBool_bool, Bool.not_false, Bool.not_true, condK_true, condK_false, rtTup_tup, rtCons_cons, rtInt_int, tokV, rtAgg_agg, rtStr_str, rtNil_nil]
/-- The high bound: as the low one. -/
theorem high_same (hI : SpIs (D 43)) {k on : Nat} {v : Int} (ht : ts[j]? = some t) (hs : stB t (BS.mk 2 11822) = false) :
    To (J64_1 [] D W N p 0 cb 5) (J64_2 [] D W N p 0 cb 5) p tb ts j j m cb (nd k true true false false v (Int.ofNat 0) on) (nd k true true true false v v on) := by
  intro σ h
  have e1 := h.isF hI ht hs
  have e2 : ∀ κ, ldK [] σ cb (Nat.add 5 1) κ = κ (.bool true) := h.ld rfl
  have e3 : ∀ κ, ldK [] σ cb (Nat.add 5 4) κ = κ (.int .i64 v) := h.ld rfl
  obtain ⟨σ4, e4, h4, f4⟩ := h.st (Nat.add 5 2) (.bool true) rfl
  obtain ⟨σ5, e5, h5, f5⟩ := h4.st (Nat.add 5 5) (.int .i64 v) rfl
  refine ⟨σ5, ?_, h5, f4.trans f5 (fun _ _ h => h)⟩
  show T64_1 [] D W (J64_2 [] D W N) p 0 cb 5 σ = _
  simp only [T64_1, e1, e2, e3, e4, e5, callK_some_, rtBool_bool, rtInt_int, Bool.not_false, condK_true]
theorem high_max (hI : SpIs (D 43)) {k on : Nat} {hl : Bool} {v : Int} {t1 : Tk} (ht : ts[j]? = some t) (hs : stB t (BS.mk 2 11822) = true) (ht1 : ts[j + 1]? = some t1) (hs1 : stB t1 (BS.mk 3 5783885) = true) :
    To (J64_1 [] D W N p 0 cb 5) (J64_2 [] D W N p 0 cb 5) p tb ts j (j + 2) m cb (nd k true hl false false v (Int.ofNat 0) on) (nd k true hl false false v (Int.ofNat 0) on) := by
  intro σ h
  obtain ⟨σ1, e1, h1, f1⟩ := h.isT hI ht hs
  obtain ⟨σ2, e2, h2, f2⟩ := h1.isT hI ht1 hs1
  refine ⟨σ2, ?_, h2, f1.trans f2 (fun _ _ h => h)⟩
  show T64_1 [] D W (J64_2 [] D W N) p 0 cb 5 σ = _
  simp only [T64_1, e1, e2, callK_some_, rtBool_bool, Bool.not_true, condK_false]
theorem high_num (hI : SpIs (D 43)) (hN : SpPNum (D 73)) {k on a : Nat} {hl : Bool} {u v : Int} {w : List Nat} (ht : ts[j]? = some t) (hs : stB t (BS.mk 2 11822) = true) (ht1 : ts[j + 1]? = some (3, w, a)) (hw : NumOk w v) :
    To (J64_1 [] D W N p 0 cb 5) (J64_2 [] D W N p 0 cb 5) p tb ts j (j + 2) m cb (nd k true hl false false u (Int.ofNat 0) on) (nd k true hl true false u v on) := by
  intro σ h
  obtain ⟨σ1, e1, h1, f1⟩ := h.isT hI ht hs
  have e2 := h1.isF (s := BS.mk 3 5783885) hI ht1 rfl
  obtain ⟨σ3, e3, h3, f3⟩ := h1.num hN ht1 hw
  obtain ⟨σ4, e4, h4, f4⟩ := h3.st (Nat.add 5 2) (.bool true) rfl
  obtain ⟨σ5, e5, h5, f5⟩ := h4.st (Nat.add 5 5) (.int .i64 v) rfl
  refine ⟨σ5, ?_, h5, ((f1.trans f3 (fun _ _ h => h)).trans f4 (fun _ _ h => h)).trans f5 (fun _ _ h => h)⟩
  show T64_1 [] D W (J64_2 [] D W N) p 0 cb 5 σ = _
  simp only [T64_1, e1, e2, e3, e4, e5, callK_some_, rtBool_bool, Bool.not_false, Bool.not_true, condK_true, condK_false, rtTup_tup, rtCons_cons, rtInt_int, tokV, rtAgg_agg, rtStr_str, rtNil_nil]
/-- Whether there may be more. -/
theorem more_no (hI : SpIs (D 43)) (ht : ts[j]? = some t) (hs : stB t (BS.mk 1 44) = false) :
    To (J64_2 [] D W N p 0 cb 5) (fun σ => some (.bool true, σ)) p tb ts j j m cb L L := by
  intro σ h
  have e1 := h.isF hI ht hs
  refine ⟨σ, ?_, h, Fr.refl h.x.tidy⟩
  show T64_2 [] D W p 0 cb 5 σ = _
  simp only [T64_2, e1, callK_some_, rtBool_bool, condK_false]
theorem more_yes (hI : SpIs (D 43)) (hW : SpWant (D 21)) {k on : Nat} {hl hh : Bool} {u v : Int} {t1 : Tk} (ht : ts[j]? = some t) (hs : stB t (BS.mk 1 44) = true) (ht1 : ts[j + 1]? = some t1) (hs1 : stB t1 (BS.mk 3 3026478) = true) :
    To (J64_2 [] D W N p 0 cb 5) (fun σ => some (.bool true, σ)) p tb ts j (j + 2) m cb (nd k true hl hh false u v on) (nd k true hl hh true u v on) := by
  intro σ h
  obtain ⟨σ1, e1, h1, f1⟩ := h.isT hI ht hs
  obtain ⟨σ2, e2, h2, f2⟩ := h1.st (Nat.add 5 3) (.bool true) rfl
  obtain ⟨σ3, e3, h3, a3, n1, n2, f3⟩ := h2.new [V.str (BS.mk 3 3026478)]
  obtain ⟨σ4, e4, h4, f4⟩ := h3.want hW (l := [BS.mk 3 3026478]) a3 n1 ⟨⟨t1, ht1, hs1⟩, trivial⟩ (by simp)
  refine ⟨σ4, ?_, h4, ((f1.trans f2 (fun _ _ h => h)).trans f3 (fun _ _ h => h)).trans f4 (fun _ _ h => h)⟩
  show T64_2 [] D W p 0 cb 5 σ = _
  simp only [T64_2, e1, e2, callK_some_, rtBool_bool, condK_true]
  rw [e3]
  have e4' : D 21 [.ptr p 0, .sl (H.next σ2) 0 1 (.ex 1)] σ3 = some (.bool true, σ4) := e4
  simp only [e4', callK_some_, rtBool_bool]
end

/-! ### bounds, size -/
def SpBd (ts : List Tk) (j j' : Nat) (hl hh mo : Bool) (u v : Int) (F : List V → H → Ans) : Prop := ∀ (σ : H) (p tb : Nat) (m : List V) (cb k on : Nat), Cx σ p tb ts j m cb (nd k false false false false (Int.ofNat 0) (Int.ofNat 0) on) →
  ∃ σ', F [.ptr p 0, .ptr cb 5] σ = some (.bool true, σ') ∧ Cx σ' p tb ts j' m cb (nd k true hl hh mo u v on) ∧ Fr (fun k => k = p ∨ k = cb) σ σ'
section
variable {D : Den} {W : DrawFn} {N : Nat} {ts : List Tk} {j j' : Nat} {t t1 : Tk}
theorem bounds_F {hl hh mo : Bool} {u v : Int} (h : ∀ (p tb : Nat) (m : List V) (cb k on : Nat), To (J64_0 [] D W N p 0 cb 5) (fun σ => some (.bool true, σ)) p tb ts j j' m cb (nd k false false false false (Int.ofNat 0) (Int.ofNat 0) on) (nd k true hl hh mo u v on)) : SpBd ts j j' hl hh mo u v (F64 [] D W N) := fun σ p tb m cb k on hc =>
  let ⟨σ', e, h', f⟩ := h p tb m cb k on σ hc
  ⟨σ', e, h', f⟩
theorem size_F (hI : SpIs (D 43)) (hW : SpWant (D 21)) {hl hh mo : Bool} {u v : Int} {t2 t3 t4 : Tk} (ht : ts[j]? = some t) (hs : stB t (BS.mk 1 40) = true) (ht1 : ts[j + 1]? = some t1) (hs1 : stB t1 (BS.mk 4 1163544915) = true) (ht2 : ts[j + 2]? = some t2) (hs2 : stB t2 (BS.mk 1 40) = true)
    (hB : SpBd ts (j + 3) j' hl hh mo u v (D 64)) (ht3 : ts[j']? = some t3) (hs3 : stB t3 (BS.mk 1 41) = true) (ht4 : ts[j' + 1]? = some t4) (hs4 : stB t4 (BS.mk 1 41) = true) : SpBd ts j (j' + 2) hl hh mo u v (F63 [] D W N) := by
  intro σ p tb m cb k on h
  obtain ⟨σ1, e1, h1, f1⟩ := h.isT hI ht hs
  obtain ⟨σ2, e2, h2, a2, n2, _, f2⟩ := h1.new [V.str (BS.mk 4 1163544915), V.str (BS.mk 1 40)]
  obtain ⟨σ3, e3, h3, f3⟩ := h2.want hW (l := [BS.mk 4 1163544915, BS.mk 1 40]) a2 n2 ⟨⟨t1, ht1, hs1⟩, ⟨t2, ht2, hs2⟩, trivial⟩ (by simp)
  obtain ⟨σ4, e4, h4, f4⟩ := hB σ3 p tb m cb k on h3
  obtain ⟨σ5, e5, h5, a5, n5, _, f5⟩ := h4.new [V.str (BS.mk 1 41), V.str (BS.mk 1 41)]
  obtain ⟨σ6, e6, h6, f6⟩ := h5.want hW (l := [BS.mk 1 41, BS.mk 1 41]) a5 n5 ⟨⟨t3, ht3, hs3⟩, ⟨t4, ht4, hs4⟩, trivial⟩ (by simp)
  refine ⟨σ6, ?_, h6, ((((f1.trans f2 (fun _ _ h => h)).trans f3 (fun _ _ h => h)).trans f4 (fun _ _ h => h)).trans f5 (fun _ _ h => h)).trans f6 (fun _ _ h => h)⟩
  show T63_0 [] D W p 0 (.ptr cb 5) σ = _
  simp only [T63_0, e1, callK_some_, rtBool_bool, joinB_, Bool.not_true, condK_false]
  rw [e2]
  have e3' : D 21 [.ptr p 0, .sl (H.next σ1) 0 2 (.ex 2)] σ2 = some (.bool true, σ3) := e3
  simp only [e3', e4, callK_some_, rtBool_bool, condK_true]
  rw [e5]
  have e6' : D 21 [.ptr p 0, .sl (H.next σ4) 0 2 (.ex 2)] σ5 = some (.bool true, σ6) := e6
  simp only [e6', callK_some_, rtBool_bool]
end
end
end Go.Proofs.YtjolbidcficdhaaDoor
