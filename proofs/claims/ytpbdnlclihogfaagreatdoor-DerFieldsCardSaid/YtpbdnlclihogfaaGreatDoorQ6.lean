/- What the last text leans on, part 7 of 7: merged out of smaller texts. No condition. -/
import Derived.Test.YtpbdnlclihogfaaGreatDoorQ5
set_option linter.all false
set_option maxRecDepth 100000
namespace Go.Proofs.YtpbdnlclihogfaaGreatDoor
open Go Go.Og
noncomputable section
theorem xPlain (d : Nat) : SpPlain (TW (d + 1) 110) := by rw [DE110]; exact plain_F
theorem xWithin (d : Nat) : SpWithin (TW (d + 1) 111) := by rw [DE111]; exact fun σ h hl hh mo lo hi v ht => within_F ht h hl hh mo lo hi v
theorem xAbs (d : Nat) : SpAbs (TW (d + 2) 119) := by rw [DE119]; exact fun ht v nb nl nm h1 h2 h3 => absent_F (xPlain d) ht h1 h2 h3
theorem xLoose (d : Nat) : SpLoose (TW (d + 1) 162) := by rw [DE162]; exact fun ht x nf fd hf k hk => loose_F ht x hf hk
theorem xIx (d : Nat) : SpIx (TW (d + 1) 115) (TW d) := by rw [DE115]; exact fun ht hr hq hn => ixV_F ht hr hq (by omega) (by omega)
theorem xCf (d : Nat) : SpCf (TW (d + 2) 65) (TW d) := by rw [DE65]; exact cfV_F (xIx d)
theorem xFitI (d : Nat) {nT i : Nat} {ty : Nat → Ty} (hi : i < nT) (hk : (ty i).kind = Int.ofNat 2) (hh : (ty i).has = false) (n : Int) : SpFit (TW (d + 2) 63) nT ty i (Vc.int n) := by
  rw [DE63]; exact fun σ p dp nm nv rv tv rest ht hc hd => fitsInt_F (xPlain d) (xWithin d) ht hc hi hd hk hh n
theorem xRaws (d : Nat) : SpRaws (TW (d + 1) 161) := by rw [DE161]; exact fun ht hc i hi v hm hr => raws_F ht hc hi v hm hr
theorem xThere (d : Nat) : SpThere (TW (d + 1) 207) := by rw [DE207]; exact fun ht hr h1 h2 h3 i hi => there_F ht hr h1 h2 h3 hi
theorem xPlaces (d : Nat) : SpPlaces (TW (d + 1) 208) := by rw [DE208]; exact fun ht h => places_F (by omega) ht h
theorem xSlots (d : Nat) : SpSlots (TW (d + 2) 187) := by rw [DE187]; exact fun ht hr h1 h2 h3 i nf fd hi hs => slots_F (by omega) (xThere d) (xPlaces d) ht hr h1 h2 h3 hi hs
theorem xGroups (d : Nat) : SpGroups (TW (d + 3) 164) := by rw [DE164]; exact fun ht hc i nf fd hi hs v => groups_F (by omega) (xSlots d) ht hc hi hs v
theorem xCount0 (d : Nat) {σ : H} (ht : Tidy σ) (v : Vc) (hl : v.l = .nils) : ∃ σ', TW (d + 1) 64 [.agg v.c] σ = some (.int .i64 (Int.ofNat 1), σ') ∧ Fr Nowhere σ σ' := by
  rw [DE64]; exact count_F (n := 0) (g := fun _ => v) (by omega) (by omega) ht ⟨.inl ⟨rfl, hl⟩⟩ (fun _ k hk => absurd hk (Nat.not_lt_zero _))
theorem xRules0 (d : Nat) {σ : H} (ht : Tidy σ) (v : Vc) (hl : v.l = .nils) (hr : v.r = Int.ofNat 0) (ru : Int) : ∃ σ', TW (d + 3) 39 [.agg v.c, .int .i64 ru] σ = some (.bool true, σ') ∧ Fr Nowhere σ σ' := by
  rw [DE39]; exact rules_F (n := 0) (g := fun _ => v) (xCf d) (by omega) hr ht ⟨.inl ⟨rfl, hl⟩⟩ (fun _ _ k hk => absurd hk (Nat.not_lt_zero _))
theorem xRules1 (d : Nat) {σ : H} (ht : Tidy σ) (v : Vc) (hl : v.l = .nils) (hr : v.r = Int.ofNat 0) {ru : Int} {q : Nat} (ha : Atc σ q [.int .i64 ru]) : ∃ σ', TW (d + 4) 66 ([] ++ [.agg v.c] ++ [.ptr q 0]) σ = some (.bool false, σ') ∧ Fr Nowhere σ σ' := by
  rw [DE66]; exact rules1_F (fun σ1 h1 _ => xRules0 d h1 v hl hr ru) ht ha
theorem xRules (d : Nat) {σ : H} (ht : Tidy σ) {v : Vc} {n : Nat} {g : Nat → Vc} (hr : Row σ 6 n v.l fun k => (g k).c) (hv : v.r = Int.ofNat 0) (hn : n ≤ 10000) (hg : ∀ k, k < n → (g k).l = .nils ∧ (g k).r = Int.ofNat 0) (ru : Int) : ∃ σ', TW (d + 7) 39 [.agg v.c, .int .i64 ru] σ = some (.bool true, σ') ∧ Fr Nowhere σ σ' := by
  rw [DE39]; exact rules_F (xCf (d + 4)) hn hv ht hr (fun σ1 q k hk f ha => xRules1 d f.tidy (g k) (hg k hk).1 (hg k hk).2 ha)
theorem xCount (d : Nat) {σ : H} (ht : Tidy σ) {v : Vc} {n : Nat} {g : Nat → Vc} (hr : Row σ 6 n v.l fun k => (g k).c) (hn : n ≤ 10000) (hg : ∀ k, k < n → (g k).l = .nils) : ∃ σ', TW (d + 2) 64 [.agg v.c] σ = some (.int .i64 (Int.ofNat (1 + n)), σ') ∧ Fr Nowhere σ σ' := by
  rw [DE64]; exact count_F (by omega) hn ht hr (fun σ1 k hk f => xCount0 d f.tidy (g k) (hg k hk))
/-! ### octets -/
theorem xOcts (d : Nat) (v : Int) (σ : H) (n : Nat) (ht : Tidy σ) (hn : n ≤ 8) : Makes (TW (d + 1) 118) [.int .u64 (wrapF .u64 v), .int .i64 (Int.ofNat n)] σ (octBE v n) := by rw [DE118]; exact octets_F hn (by omega) ht
theorem xSigned (d : Nat) : SpSigned (TW (d + 2) 68) := by rw [DE68]; exact fun {σ v} hv ht => signed_F hv (fun σ n h1 h2 => xOcts d v σ n h1 h2) (by omega) ht
theorem xRsigned (d : Nat) : SpSigned (TW (d + 1) 26) := by rw [DE26]; exact fun hv ht => rsigned_F hv (by omega) ht
theorem xJoin (d : Nat) : SpJoin (TW (d + 1) 116) := by rw [DE116]; exact join_F (by omega)
theorem xHead (d : Nat) : SpHead (TW (d + 1) 165) := by rw [DE165]; exact fun hc hk hn made ht => tlvHead_F hc hk hn made ht
theorem xRhead (d : Nat) : SpHead (TW (d + 1) 49) := by rw [DE49]; exact fun hc hk hn made ht => rhead_F hc hk hn made ht
theorem xEl (d : Nat) : SpEl (TW (d + 2) 117) := by rw [DE117]; exact fun hc hk hl hn made ht hr hp => tlvEl_F (xJoin d) (xHead d) hc hk hl hn made ht hr hp
theorem xRelem (d : Nat) {σ : H} {c k : Nat} {l : List Int} {v : V} (hc : c = 0 ∨ c = 2) (hk : k < 31) (hn : l.length < 128) (made : Bool) (ht : Tidy σ) (hv : By σ v l) : Makes (TW (d + 2) 27) [.agg [.int .i64 (Int.ofNat c), .int .i64 (Int.ofNat k)], .bool made, v] σ (elemS c made k l) := by
  rw [DE27]; exact relem_F (xRhead d) hc hk hn made ht hv
theorem xWithinT (d : Nat) : SpWithinT (TW (d + 3) 67) := by rw [DE67]; exact dwithin_F (xJoin (d + 1)) (xEl d) (by omega)
theorem xElemI (d : Nat) {σ : H} {p nT i nt : Nat} {ty : Nat → Ty} {nm : BS} {nv rv tv : V} {tg : Nat → Nat × Nat} {v : Int} (hv : In64i v) (ht : Tidy σ) (hc : Ck σ p nT ty nm nv rv tv []) (hi : i < nT) (hT : Tgs σ (ty i) nt tg) (hk : (ty i).kind = Int.ofNat 2) :
    Makes (TW (d + 4) 40) [.ptr p 0, .int .i64 (Int.ofNat i), .agg (Vc.int v).c] σ (encW tg nt false nt (sOct v)) := by
  rw [DE40]; exact elemInt_F (xSigned (d + 1)) (xWithinT d) hv ht hc hi hT hk
theorem xDfields (d : Nat) : SpDf (TW (d + 5) 69) (TW (d + 4)) := by
  rw [DE69]
  exact dfields_F (xAbs (d + 2)) (by omega)
/-! ### DerFields -/
section
variable {σ : H} {n tb rb : Nat} {fv : V} {h : fv.one = true} {tg : Nat → Nat} {nmK : Nat → BS} {nm : BS} {nv rv : V}
def gI (vals : Nat → Int) (there : Nat → Bool) (k : Nat) : Vc := if there k = true then Vc.int (vals k) else Vc.abs
def eI (c : Nat) (vals : Nat → Int) (k : Nat) : List Int := elemS c false (if c = 0 then 2 else k) (sOct (vals k))
theorem eI_length (c : Nat) (vals : Nat → Int) (k : Nat) : (eI c vals k).length ≤ 10 := by
  have := (sOct_length (vals k)).2
  unfold eI; rw [elemS_length]; omega
theorem parts_len {ab : Nat → Bool} {e : Nat → List Int} (he : ∀ k, (e k).length ≤ 10) : ∀ m i, (partsF ab e m i).flatten.length ≤ m * 10
  | 0, _ => by simp [partsF]
  | m + 1, i => by
    have ih := parts_len (ab := ab) he m (i + 1)
    have := he i
    unfold partsF
    split
    · omega
    · simp only [List.flatten_cons, List.length_append]; omega
theorem gI_leaf (vals : Nat → Int) (there : Nat → Bool) (k : Nat) : (gI vals there k).l = .nils ∧ (gI vals there k).r = Int.ofNat 0 := by
  unfold gI; split <;> exact ⟨rfl, rfl⟩
theorem vbeq {k : Int} {l : V} (hb : V.beq l l = true) : V.beq (.agg [.int .i64 k, .int .i64 (Int.ofNat 0), .nils, l, .int .i64 (Int.ofNat 0), .nils]) (.agg [.int .i64 k, .int .i64 (Int.ofNat 0), .nils, l, .int .i64 (Int.ofNat 0), .nils]) = true := by
  simp [V.beq, beqs, hb]
theorem encSeq (d : Nat) {vals : Nat → Int} {there : Nat → Bool} {l : V} {hl : l.one = true} {c : Cap} (hv : ∀ k, k < n → In64i (vals k)) (ht : Tidy σ) (t : TabD σ n tb rb fv h tg nmK) (h1 : nv.one = true) (h2 : rv.one = true) (hr : Row σ 6 n l fun k => (gI vals there k).c) (hb : V.beq l l = true) :
    ∃ u σ', TW (d + 20) 18 [.agg [.str nm, nv, rv, .sl tb 0 (n + 3) c], .int .i64 (Int.ofNat 0), .agg (Vc.seq l hl).c] σ = some (.tup [u, .int .i64 (Int.ofNat 0)], σ') ∧ Nb σ σ' u (elemS 0 true 16 (partsF (fun k => !there k) (eI 2 vals) n 0).flatten) ∧ Fr Nowhere σ σ' := by
  have sm := t.small
  have hlen := parts_len (ab := fun k => !there k) (eI_length 2 vals) n 0
  have tyk : ∀ k, k < n → (tyG n fv h tg (k + 1)).kind = Int.ofNat 2 ∧ (tyG n fv h tg (k + 1)).has = false := fun k hk => by rw [tyG_i hk]; exact ⟨rfl, rfl⟩
  rw [DE18]
  refine enc_F ht h1 h2 rfl (TabD.row t) (by rw [elemS_length]; omega) (fun σ1 f1 => ?_) (fun σ1 f1 => ?_) (fun σ1 p f1 hc => ?_)
  · rw [show d + 19 = (d + 18) + 1 by rfl, DE38]
    refine Fits_F (n := 1 + n) (by omega) f1.tidy (TabD.row (t.fr f1 ht)) h1 h2 rfl (fun σ2 p h2' f2 hc => ?_) (fun σ2 h2' f2 => ?_)
    · have f02 := f1.trans f2 (fun _ _ h => h)
      have t2 := t.fr f02 ht
      obtain ⟨σ3, e3, f3, a3, n3⟩ := mk_new h2' (Vc.seq l hl).c
      have f03 := f02.trans f3 (fun _ _ h => h)
      obtain ⟨σ4, g4, f4⟩ : ∃ σ4, TW (d + 17) 114 [.ptr p 0, .int .i64 (Int.ofNat 0), .agg (Vc.seq l hl).c, .int .i64 (Int.ofNat 1)] σ3 = some (.bool true, σ4) ∧ Fr Nowhere σ3 σ4 := by
        rw [show d + 17 = (d + 16) + 1 by rfl, DE114]
        refine fields_F (hl := hl) (g := gI vals there) (xPlain (d + 15)) (xRaws (d + 15)) (xGroups (d + 13)) (xAbs (d + 14)) (xLoose (d + 15)) (fun k hk => ?_) (by decide) (by omega) (by omega) f3.tidy (hc.fr f3 h2') (t2.fr f3 h2').seq (hr.fr0 f03 ht)
        unfold gI
        by_cases hth : there k = true
        · rw [if_pos hth]
          exact .inr ⟨rfl, rfl, k + 1, rfl, xFitI (d + 14) (by omega) (tyk k hk).1 (tyk k hk).2 _⟩
        · rw [if_neg hth]
          exact .inl ⟨rfl, rfl⟩
      refine ⟨σ4, ?_, f3.trans f4 (fun _ _ h => h)⟩
      rw [show d + 18 = (d + 17) + 1 by rfl, DE63]
      exact fitsSeq_F h2' hc (by omega) (by decide) rfl e3 g4
    · exact xCount (d + 16) h2' (hr.fr0 (f1.trans f2 (fun _ _ h => h)) ht) (by omega) (fun k _ => (gI_leaf vals there k).1)
  · exact xRules (d + 12) f1.tidy (hr.fr0 f1 ht) rfl (by omega) (fun k _ => gI_leaf vals there k) _
  · have t1 := t.fr f1 ht
    rw [show d + 19 = (d + 18) + 1 by rfl, DE40]
    have := elemSeq_F (D := TW (d + 18)) (N := 100000) (hl := hl) (ab := fun k => !there k) (e := eI 2 vals) (g := gI vals there) (nt := 1) (tg := fun _ => tagG n 0) (xDfields (d + 13)) (xWithinT (d + 15)) f1.tidy hc (by omega) (t1.tgs (by omega)) t1.seq (hr.fr0 f1 ht) t1.fb (fun k hk => ?_) (vbeq hb) t1.cb (by omega)
    · exact this
    · unfold gI FieldE
      by_cases hth : there k = true
      · rw [if_pos hth]
        refine .inr ⟨by simp [hth], vals k, k + 1, rfl, rfl, fun σ2 f2 => ?_⟩
        have := xElemI (d + 13) (hv k hk) f2.tidy (hc.fr f2 f1.tidy) (by omega : k + 1 < n + 3) ((t1.fr f2 f1.tidy).tgs (by omega)) (tyk k hk).1
        have et : tagG n (k + 1) = (2, k) := by unfold tagG; rw [if_neg (by omega), if_pos (by omega)]; rfl
        rw [show encW (fun _ => tagG n (k + 1)) 1 false 1 (sOct (vals k)) = eI 2 vals k by
          simp only [et, encW, eI]; rfl] at this
        exact this
      · rw [if_neg hth]
        exact .inl ⟨rfl, by simp [hth]⟩
theorem encList (d : Nat) {vals : Nat → Int} {l : V} {hl : l.one = true} {c : Cap} (hv : ∀ k, k < n → In64i (vals k)) (ht : Tidy σ) (t : TabD σ n tb rb fv h tg nmK) (h1 : nv.one = true) (h2 : rv.one = true) (hr : Row σ 6 n l fun k => (Vc.int (vals k)).c) :
    ∃ u σ', TW (d + 20) 18 [.agg [.str nm, nv, rv, .sl tb 0 (n + 3) c], .int .i64 (Int.ofNat (n + 1)), .agg (Vc.lst l hl).c] σ = some (.tup [u, .int .i64 (Int.ofNat 0)], σ') ∧ Nb σ σ' u (elemS 0 true 16 (partsF (fun _ => false) (eI 0 vals) n 0).flatten) ∧ Fr Nowhere σ σ' := by
  have sm := t.small
  have hlen := parts_len (ab := fun _ => false) (eI_length 0 vals) n 0
  have kl : (tyG n fv h tg (n + 1)).kind = Int.ofNat 10 ∧ (tyG n fv h tg (n + 1)).has = false ∧ (tyG n fv h tg (n + 1)).of_ = Int.ofNat (n + 2) := by rw [tyG_l]; exact ⟨rfl, rfl, rfl⟩
  have km : (tyG n fv h tg (n + 2)).kind = Int.ofNat 2 ∧ (tyG n fv h tg (n + 2)).has = false := by rw [tyG_m]; exact ⟨rfl, rfl⟩
  rw [DE18]
  refine enc_F ht h1 h2 rfl (TabD.row t) (by rw [elemS_length]; omega) (fun σ1 f1 => ?_) (fun σ1 f1 => ?_) (fun σ1 p f1 hc => ?_)
  · rw [show d + 19 = (d + 18) + 1 by rfl, DE38]
    refine Fits_F (n := 1 + n) (by omega) f1.tidy (TabD.row (t.fr f1 ht)) h1 h2 rfl (fun σ2 p h2' f2 hc => ?_) (fun σ2 h2' f2 => ?_)
    · have f02 := f1.trans f2 (fun _ _ h => h)
      obtain ⟨σ3, e3, f3, a3, n3⟩ := mk_new h2' (Vc.lst l hl).c
      have f03 := f02.trans f3 (fun _ _ h => h)
      obtain ⟨σ4, g4, f4⟩ : ∃ σ4, TW (d + 17) 113 [.ptr p 0, .agg (tyG n fv h tg (n + 1)).c, .agg (Vc.lst l hl).c, .int .i64 (Int.ofNat 1)] σ3 = some (.bool true, σ4) ∧ Fr Nowhere σ3 σ4 := by
        rw [show d + 17 = (d + 16) + 1 by rfl, DE113]
        refine list_F (D' := TW (d + 14)) (i := n + 2) (g := fun k => Vc.int (vals k)) (xPlain (d + 15)) (xWithin (d + 15)) (xCf (d + 14)) hl (fun {σ} ht' hc' {qc qx qd dp k} hk ac ax ad hd => ?_) f3.tidy (hc.fr f3 h2') (hr.fr0 f03 ht) kl.2.1 (by decide) (by omega)
        rw [show d + 14 = (d + 13) + 1 by rfl, DE160]
        exact list1_F (i := n + 2) (xFitI (d + 11) (by omega) km.1 km.2 _) ht' hc' ac ax ad kl.2.2 hd
      refine ⟨σ4, ?_, f3.trans f4 (fun _ _ h => h)⟩
      rw [show d + 18 = (d + 17) + 1 by rfl, DE63]
      exact fitsList_F h2' hc (by omega) (by decide) kl.1 e3 g4
    · exact xCount (d + 16) h2' (hr.fr0 (f1.trans f2 (fun _ _ h => h)) ht) (by omega) (fun k _ => rfl)
  · exact xRules (d + 12) f1.tidy (hr.fr0 f1 ht) rfl (by omega) (fun k _ => ⟨rfl, rfl⟩) _
  · have t1 := t.fr f1 ht
    rw [show d + 19 = (d + 18) + 1 by rfl, DE40]
    have et : tagG n (n + 1) = (0, 16) := by unfold tagG; rw [if_neg (by omega), if_neg (by omega), if_pos rfl]
    have em : tagG n (n + 2) = (0, 2) := by unfold tagG; rw [if_neg (by omega), if_neg (by omega), if_neg (by omega)]
    have := elemList_F (D := TW (d + 18)) (N := 100000) (hl := hl) (e := eI 0 vals) (g := fun k => Vc.int (vals k)) (nt := 1) (tg := fun _ => tagG n (n + 1)) (xWithinT (d + 15)) f1.tidy hc (by omega) (t1.tgs (by omega)) kl.1 kl.2.2 (hr.fr0 f1 ht) (by omega) (by omega) (fun k hk σ2 f2 => ?_) (by omega)
    · rw [et] at this
      exact this
    · have := xElemI (d + 14) (hv k hk) f2.tidy (hc.fr f2 f1.tidy) (by omega : n + 2 < n + 3) ((t1.fr f2 f1.tidy).tgs (by omega)) km.1
      rw [show encW (fun _ => tagG n (n + 2)) 1 false 1 (sOct (vals k)) = eI 0 vals k by
        simp only [em, encW, eI]; rfl] at this
      exact this
end
end
end Go.Proofs.YtpbdnlclihogfaaGreatDoor
set_option linter.all false
set_option maxRecDepth 100000
namespace Go.Proofs.YtpbdnlclihogfaaGreatDoor
open Go Go.Og
noncomputable section
/-- Slices that grow, in blocks of their own. -/
structure Slot where
  esz : Nat
  k : Nat
  v : V
  l : List V
def mk4 (a b c d : Slot) : Nat → Slot := fun j => if j = 0 then a else if j = 1 then b else if j = 2 then c else if j = 3 then d else ⟨0, 0, .nils, []⟩
def upd (s : Nat → Slot) (j : Nat) (x : Slot) : Nat → Slot := fun i => if i = j then x else s i
structure Own (σ0 σ : H) (s : Nat → Slot) : Prop where
  f : Fr Nowhere σ0 σ
  d : ∀ j, j < 4 → Dst σ (s j).esz (s j).k (s j).v (s j).l
  new : ∀ j, j < 4 → ∀ b, Names (s j).v b → σ0.next ≤ b
  apart : ∀ i j, i < 4 → j < 4 → i ≠ j → ∀ b, Names (s i).v b → ¬ Names (s j).v b
theorem Own.fr {σ0 σ σ' : H} {s : Nat → Slot} (h : Own σ0 σ s) (f : Fr Nowhere σ σ') : Own σ0 σ' s :=
  ⟨h.f.trans f (fun _ _ h => h), fun j hj => (h.d j hj).fr f h.f.tidy (fun _ _ h => h), h.new, h.apart⟩
theorem Own.app {E : List (Nat × Blk)} {σ0 σ : H} {s : Nat → Slot} {bytes n : Nat} {x : V} {m : List V} (h : Own σ0 σ s) (j : Nat) (hj : j < 4) (hx : Src σ (s j).esz n x m) (ho : allOne m = true) (hg : growable ((s j).k + n) bytes = true) :
    ∃ u σ', (∀ κ : V → H → Ans, appK E (s j).esz bytes (s j).v x σ κ = κ u σ') ∧ Own σ0 σ' (upd s j ⟨(s j).esz, (s j).k + n, u, (s j).l ++ m⟩) ∧ u.one = true := by
  obtain ⟨u, σ', g, d, nm, f⟩ := app_all (E := E) (h.d j hj) h.f.tidy hx ho hg
  have ht := h.f.tidy
  refine ⟨u, σ', g, ⟨h.f.trans f (fun b hb hn => by have := h.new j hj b hn; omega), fun i hi => ?_, fun i hi b hb => ?_, fun i i' hi hi' hne b hb hb' => ?_⟩, d.one⟩
  · unfold upd
    by_cases he : i = j
    · rw [if_pos he]; exact d
    · rw [if_neg he]
      exact (h.d i hi).fr f ht (fun b hb => h.apart i j hi hj he b hb)
  · unfold upd at hb
    by_cases he : i = j
    · rw [if_pos he] at hb
      rcases nm b hb with h' | h'
      · exact h.new j hj b h'
      · have := h.f.le; omega
    · rw [if_neg he] at hb; exact h.new i hi b hb
  · unfold upd at hb hb'
    have key : ∀ i, i < 4 → i ≠ j → ∀ b, Names (s i).v b → ¬ Names u b := fun i hi he b hb hb' => by
      rcases nm b hb' with h' | h'
      · exact h.apart i j hi hj he b hb h'
      · have := (h.d i hi).lt ht hb; omega
    by_cases he : i = j
    · rw [if_pos he] at hb
      rw [if_neg (fun h => hne (he.trans h.symm))] at hb'
      exact key i' hi' (fun h => hne (he.trans h.symm)) b hb' hb
    · rw [if_neg he] at hb
      by_cases he' : i' = j
      · rw [if_pos he'] at hb'; exact key i hi he b hb hb'
      · rw [if_neg he'] at hb'; exact h.apart i i' hi hi' hne b hb hb'
theorem upd_0 (a b c d x : Slot) : upd (mk4 a b c d) 0 x = mk4 x b c d := by
  funext i; unfold upd mk4; by_cases h : i = 0 <;> simp [h]
theorem upd_1 (a b c d x : Slot) : upd (mk4 a b c d) 1 x = mk4 a x c d := by
  funext i; unfold upd mk4; by_cases h : i = 1 <;> simp [h]
theorem upd_2 (a b c d x : Slot) : upd (mk4 a b c d) 2 x = mk4 a b x d := by
  funext i; unfold upd mk4; by_cases h : i = 2 <;> simp [h]
theorem upd_3 (a b c d x : Slot) : upd (mk4 a b c d) 3 x = mk4 a b c x := by
  funext i; unfold upd mk4; by_cases h : i = 3 <;> simp [h]
theorem cat_canon {a b : BS} (hb : b.canon) : (a.cat b).canon := by
  show Nat.lor a.low (Nat.shiftLeft b.val (Nat.mul 8 a.len)) < 2 ^ (8 * (a.len + b.len))
  have h1 : a.low < 2 ^ (8 * a.len) := Nat.mod_lt _ (Nat.pow_pos (by decide))
  refine Nat.or_lt_two_pow (Nat.lt_of_lt_of_le h1 (Nat.pow_le_pow_right (by decide) (by omega))) ?_
  show b.val <<< (8 * a.len) < _
  rw [Nat.shiftLeft_eq, Nat.mul_add, Nat.pow_add, Nat.mul_comm]
  exact Nat.mul_lt_mul_of_pos_left hb (Nat.pow_pos (by decide))
def tail18 : List Nat := [93, 32, 73, 78, 84, 69, 71, 69, 82, 32, 79, 80, 84, 73, 79, 78, 65, 76]
def tl : Nat → List Nat
  | 0 => []
  | k + 1 => (((((tl k ++ (if k = 0 then [] else [44, 32])) ++ [102]) ++ [48 + k]) ++ [32, 91]) ++ [48 + k]) ++ tail18
theorem tl_ok : ∀ k, k ≤ 10 → (∀ c ∈ tl k, c < 256) ∧ (tl k).length ≤ 25 * k
  | 0, _ => ⟨fun c h => (by cases h), (by simp [tl])⟩
  | k + 1, h => by
    obtain ⟨h1, h2⟩ := tl_ok k (by omega)
    constructor
    · intro c hc
      simp only [tl, List.mem_append, List.mem_cons, List.not_mem_nil, or_false] at hc
      rcases hc with (((((hc | hc) | hc) | hc) | hc) | hc) | hc
      · exact h1 c hc
      · split at hc
        · cases hc
        · simp only [List.mem_cons, List.not_mem_nil, or_false] at hc; omega
      · omega
      · omega
      · omega
      · omega
      · revert c; decide
    · have e : (if k = 0 then ([] : List Nat) else [44, 32]).length ≤ 2 := by split <;> simp
      simp only [tl, List.length_append, List.length_cons, List.length_nil, show tail18.length = 18 from rfl]; omega
def preL : List Nat := [77, 32, 68, 69, 70, 73, 78, 73, 84, 73, 79, 78, 83, 32, 73, 77, 80, 76, 73, 67, 73, 84, 32, 84, 65, 71, 83, 32, 58, 58, 61, 32, 66, 69, 71, 73, 78, 32, 65, 32, 58, 58, 61, 32, 83, 69, 81, 85, 69, 78, 67, 69, 32, 123, 32]
def postL : List Nat := [32, 125, 32, 66, 32, 58, 58, 61, 32, 83, 69, 81, 85, 69, 78, 67, 69, 32, 79, 70, 32, 73, 78, 84, 69, 71, 69, 82, 32, 69, 78, 68]
theorem txt_is {n : Nat} (h : n ≤ 10) : ofN ((preL ++ tl n) ++ postL) = txt n := by
  have : n = 0 ∨ n = 1 ∨ n = 2 ∨ n = 3 ∨ n = 4 ∨ n = 5 ∨ n = 6 ∨ n = 7 ∨ n = 8 ∨ n = 9 ∨ n = 10 := by omega
  rcases this with rfl | rfl | rfl | rfl | rfl | rfl | rfl | rfl | rfl | rfl | rfl <;> decide +kernel
/-! ### closed calls -/
theorem rn_str {ρ : Nat → Nat} {x : V} {s : BS} (h : V.str s = V.rn ρ x) : x = .str s := by
  cases x <;> simp [V.rn] at h
  rw [h]
theorem fits_len {e : Few} {ρ : Nat → Nat} {s : BS} {σ : H} (hf : e.Fits ρ [.str s] σ) : lenE e = s.len := by
  have h := hf.args
  cases ha : e.args with
  | nil => rw [ha] at h; cases h
  | cons x l =>
    rw [ha] at h
    cases l with
    | nil =>
      have h1 : V.str s = V.rn ρ x := by
        have := congrArg (fun l : List V => l.getD 0 .dead) h
        exact this
      have hx := rn_str h1
      unfold lenE
      rw [ha, hx]
    | cons y l =>
      have := congrArg List.length h
      simp [rns] at this
theorem Has.nil {ρ : Nat → Nat} {σ : H} : Has [] ρ σ := fun id b h => by cases h
theorem Inj.nil {ρ : Nat → Nat} : Inj [] ρ := fun id id' h => by cases h
theorem xTab (d : Nat) {σ : H} (ht : Tidy σ) {n : Nat} (hn : n ≤ 10) : ∃ v σ', TW (d + 1) 14 [.str (txt n)] σ = some (v, σ') ∧ TabAns n v σ' ∧ Fr Nowhere σ σ' := by
  have hmem : es.getD n eT0 ∈ es := by
    have : n < es.length := by show n < 11; omega
    rw [List.getD_eq_getElem?_getD, List.getElem?_eq_getElem this]
    exact List.getElem_mem this
  have hfit : (es.getD n eT0).Fits (fun x => x) [.str (txt n)] σ := by
    have : n = 0 ∨ n = 1 ∨ n = 2 ∨ n = 3 ∨ n = 4 ∨ n = 5 ∨ n = 6 ∨ n = 7 ∨ n = 8 ∨ n = 9 ∨ n = 10 := by omega
    rcases this with rfl | rfl | rfl | rfl | rfl | rfl | rfl | rfl | rfl | rfl | rfl <;> exact fits_of rfl Has.nil Inj.nil
  obtain ⟨e', ρ', he, hf, hr⟩ := locF_hit (F := BD [] 100000 (TW d) 14) hmem hfit
  have hee := es_len e' he n (by omega) (fits_len hf)
  rw [DE14]
  refine ⟨_, _, hr, ?_⟩
  have : n = 0 ∨ n = 1 ∨ n = 2 ∨ n = 3 ∨ n = 4 ∨ n = 5 ∨ n = 6 ∨ n = 7 ∨ n = 8 ∨ n = 9 ∨ n = 10 := by omega
  rcases this with rfl | rfl | rfl | rfl | rfl | rfl | rfl | rfl | rfl | rfl | rfl
  · obtain rfl : e' = eT0 := hee; exact ans0 hf ht
  · obtain rfl : e' = eT1 := hee; exact ans1 hf ht
  · obtain rfl : e' = eT2 := hee; exact ans2 hf ht
  · obtain rfl : e' = eT3 := hee; exact ans3 hf ht
  · obtain rfl : e' = eT4 := hee; exact ans4 hf ht
  · obtain rfl : e' = eT5 := hee; exact ans5 hf ht
  · obtain rfl : e' = eT6 := hee; exact ans6 hf ht
  · obtain rfl : e' = eT7 := hee; exact ans7 hf ht
  · obtain rfl : e' = eT8 := hee; exact ans8 hf ht
  · obtain rfl : e' = eT9 := hee; exact ans9 hf ht
  · obtain rfl : e' = eT10 := hee; exact ans10 hf ht
theorem xAw (d : Nat) {σ : H} (ht : Tidy σ) : ∃ σ', TW (d + 1) 17 [] σ = some (.bool true, σ') ∧ Fr Nowhere σ σ' := by
  obtain ⟨e', ρ', he, hf, hr⟩ := locF_hit (F := BD [] 100000 (TW d) 17) (List.mem_singleton.2 rfl) (fits_of (e := eAw) (ρ := fun x => x) (args := []) (σ := σ) rfl Has.nil Inj.nil)
  obtain rfl := List.mem_singleton.1 he
  exact ⟨_, by rw [DE17, hr]; rfl, Few.fr0 eAw_shape (by kernel_rfl) hf ht⟩
def ds : List Few := [eD0, eD1, eD2, eD3, eD4, eD5, eD6, eD7, eD8, eD9]
def argE (e : Few) : Int := match e.args with
  | [.int _ n] => n
  | _ => Int.negSucc 0
theorem fits_arg {e : Few} {ρ : Nat → Nat} {k : IntKind} {n : Int} {σ : H} (hf : e.Fits ρ [.int k n] σ) : argE e = n := by
  have h := hf.args
  cases ha : e.args with
  | nil => rw [ha] at h; cases h
  | cons x l =>
    rw [ha] at h
    cases l with
    | nil =>
      have h1 : V.int k n = V.rn ρ x := by
        have := congrArg (fun l : List V => l.getD 0 .dead) h
        exact this
      have hx : x = .int k n := by
        cases x <;> simp [V.rn] at h1
        rw [h1.1, h1.2]
      unfold argE
      rw [ha, hx]
    | cons y l =>
      have := congrArg List.length h
      simp [rns] at this
theorem ds_arg : ∀ e ∈ ds, ∀ i, i < 10 → argE e = Int.ofNat i → e = ds.getD i eD0 := by
  intro e he i hi
  unfold ds at he
  simp only [List.mem_cons, List.not_mem_nil, or_false] at he
  have : i = 0 ∨ i = 1 ∨ i = 2 ∨ i = 3 ∨ i = 4 ∨ i = 5 ∨ i = 6 ∨ i = 7 ∨ i = 8 ∨ i = 9 := by omega
  rcases he with rfl | rfl | rfl | rfl | rfl | rfl | rfl | rfl | rfl | rfl <;> rcases this with rfl | rfl | rfl | rfl | rfl | rfl | rfl | rfl | rfl | rfl <;> intro hl <;> first | rfl | (exfalso; revert hl; decide)
theorem ds_ok : ∀ i, i < 10 → (ds.getD i eD0).shape = true ∧ (ds.getD i eD0).still = true ∧ (ds.getD i eD0).v = .str (ofN [48 + i]) ∧ (ds.getD i eD0).args = [.int .u64 (Int.ofNat i)] ∧ (ds.getD i eD0).bl0 = [] := by
  intro i hi
  have : i = 0 ∨ i = 1 ∨ i = 2 ∨ i = 3 ∨ i = 4 ∨ i = 5 ∨ i = 6 ∨ i = 7 ∨ i = 8 ∨ i = 9 := by omega
  rcases this with rfl | rfl | rfl | rfl | rfl | rfl | rfl | rfl | rfl | rfl <;> exact ⟨by kernel_rfl, by kernel_rfl, by kernel_rfl, rfl, rfl⟩
theorem xDig (d : Nat) {σ : H} (ht : Tidy σ) {i : Nat} (hi : i < 10) : ∃ σ', TW (d + 1) 25 [.int .u64 (Int.ofNat i)] σ = some (.str (ofN [48 + i]), σ') ∧ Fr Nowhere σ σ' := by
  obtain ⟨q1, q2, q3, q4, q5⟩ := ds_ok i hi
  have hmem : ds.getD i eD0 ∈ ds := by
    have : i < ds.length := by show i < 10; omega
    rw [List.getD_eq_getElem?_getD, List.getElem?_eq_getElem this]
    exact List.getElem_mem this
  obtain ⟨e', ρ', he, hf, hr⟩ := locF_hit (F := BD [] 100000 (TW d) 25) hmem (fits_of (e := ds.getD i eD0) (ρ := fun x => x) (args := [.int .u64 (Int.ofNat i)]) (σ := σ) (by rw [q4]; rfl) (by rw [q5]; exact Has.nil) (by rw [q5]; exact Inj.nil))
  obtain rfl := ds_arg e' he i hi (fits_arg hf)
  refine ⟨_, ?_, Few.fr0 q1 q2 hf ht⟩
  rw [DE25]
  refine hr.trans ?_
  show some (V.rn _ (ds.getD i eD0).v, _) = _
  rw [q3]; rfl
end
end Go.Proofs.YtpbdnlclihogfaaGreatDoor
set_option linter.all false
set_option maxRecDepth 100000
namespace Go.Proofs.YtpbdnlclihogfaaGreatDoor
open Go Go.Og
noncomputable section
theorem catK_of {a b : BS} (h : a.len + b.len ≤ 1000000) (κ : BS → Ans) : catK a b κ = κ (a.cat b) := by
  unfold catK
  rw [show Nat.ble (Nat.add a.len b.len) 1000000000000 = true from ble_of (show a.len + b.len ≤ 1000000000000 by omega)]
theorem len_cat (a b : BS) : (a.cat b).len = a.len + b.len := rfl
/-- An argument that is a slice: nobody writes its block. -/
structure Arg (E : List (Nat × Blk)) (v : V) (n blk : Nat) (f : Nat → V) : Prop where
  len : ∀ κ : Nat → Ans, slenK v κ = κ n
  rd : ∀ (σ : H) (i : Nat) (κ : V → Ans), i < n → lookF σ.bl blk = none → iaddrSK 1 v (Int.ofNat i) (fun b o => ldK E σ b o κ) = κ (f i)
theorem Dst.row {σ : H} {esz k : Nat} {v : V} {g : Nat → List V} (hg : ∀ k, (g k).length = esz) (h : Dst σ esz k v (flatR k g)) : Row σ esz k v g := by
  rcases h with (⟨rfl, rfl, _⟩ | ⟨b, rfl, ha, _, _⟩) | ⟨b, rfl, ha, _⟩
  · exact ⟨.inl ⟨rfl, rfl⟩⟩
  · exact Row.flat hg ha
  · exact Row.flat hg ha
theorem Dst.beq {σ : H} {esz k : Nat} {v : V} {l : List V} (h : Dst σ esz k v l) : V.beq v v = true := by
  rcases h with (⟨_, rfl, _⟩ | ⟨b, rfl, _⟩) | ⟨b, rfl, _⟩
  · rfl
  · exact beq_self _ rfl
  · exact beq_self _ rfl
section
variable (vals : Nat → Int) (there : Nat → Bool)
def aF : Nat → List Int
  | 0 => []
  | i + 1 => aF i ++ (if there i = true then eI 2 vals i else [])
def bF : Nat → List Int
  | 0 => []
  | i + 1 => bF i ++ eI 0 vals i
theorem aF_parts : ∀ m i, aF vals there i ++ (partsF (fun k => !there k) (eI 2 vals) m i).flatten = aF vals there (i + m)
  | 0, i => by simp [partsF]
  | m + 1, i => by
    have ih := aF_parts m (i + 1)
    rw [show i + (m + 1) = (i + 1) + m by omega, ← ih]
    rw [show partsF (fun k => !there k) (eI 2 vals) (m + 1) i = if (!there i) = true then partsF (fun k => !there k) (eI 2 vals) m (i + 1) else eI 2 vals i :: partsF (fun k => !there k) (eI 2 vals) m (i + 1) from rfl]
    simp only [aF]
    generalize partsF (fun k => !there k) (eI 2 vals) m (i + 1) = X
    by_cases h : there i = true
    · simp [h]
    · simp [h]
theorem bF_parts : ∀ m i, bF vals i ++ (partsF (fun _ => false) (eI 0 vals) m i).flatten = bF vals (i + m)
  | 0, i => by simp [partsF]
  | m + 1, i => by
    have ih := bF_parts m (i + 1)
    rw [show i + (m + 1) = (i + 1) + m by omega, ← ih]
    rw [show partsF (fun _ => false) (eI 0 vals) (m + 1) i = eI 0 vals i :: partsF (fun _ => false) (eI 0 vals) m (i + 1) from rfl]
    generalize partsF (fun _ => false) (eI 0 vals) m (i + 1) = X
    simp [bF]
theorem aF_len : ∀ i, (aF vals there i).length ≤ 10 * i
  | 0 => by simp [aF]
  | i + 1 => by
    have ih := aF_len i
    have := eI_length 2 vals i
    unfold aF
    split <;> simp <;> omega
theorem bF_len : ∀ i, (bF vals i).length ≤ 10 * i
  | 0 => by simp [bF]
  | i + 1 => by
    have ih := bF_len i
    have := eI_length 0 vals i
    unfold bF
    simp; omega
def slots (i : Nat) (v8 v9 l6 l7 : V) : Nat → Slot :=
  mk4 ⟨1, (aF vals there i).length, v8, u8s (aF vals there i)⟩ ⟨1, (bF vals i).length, v9, u8s (bF vals i)⟩ ⟨6, i, l6, flatR i fun k => (gI vals there k).c⟩ ⟨6, i, l7, flatR i fun k => (Vc.int (vals k)).c⟩
end
section
variable {E : List (Nat × Blk)} {D : Den} {W : DrawFn} {N : Nat} {σ σ' : H} {n nb : Nat} {v0 v1 : V} {vals : Nat → Int} {there : Nat → Bool}
theorem grow1 {k : Nat} (h : k ≤ 1000) : growable (k + 1) 96 = true := by
  unfold growable
  simp only [Bool.and_eq_true, Nat.ble_eq]; omega
theorem growB {k m : Nat} (h : k + m ≤ 1000) : growable (k + m) 1 = true := by
  unfold growable
  simp only [Bool.and_eq_true, Nat.ble_eq]; omega
theorem one6 (v : Vc) : allOne v.c = true := by
  unfold Vc.c; simp [allOne, v.oneB, v.oneL, v.oneM, one_int]
/-- One field more. -/
theorem stepF (d : Nat) (h0 : Arg E v0 n 50 fun i => .int .i64 (vals i)) (h1 : Arg E v1 nb 51 fun i => .bool (there i)) (hth : ∀ i, nb ≤ i → there i = false) (hv : ∀ k, k < n → In64i (vals k)) (hn : n ≤ 10) {i : Nat} (hi : i < n) {s : BS} (hs : s.nats = tl i) (hc : s.canon) {v8 v9 l6 l7 : V} (ho : Own ⟨100, []⟩ σ (slots vals there i v8 v9 l6 l7)) :
    ∃ s' v8' v9' l6' l7' σ', s'.nats = tl (i + 1) ∧ s'.canon ∧ Own ⟨100, []⟩ σ' (slots vals there (i + 1) v8' v9' l6' l7') ∧
      ∀ K1 K3, T7_2 E (TW (d + 20)) W K1 (T7_4 E (TW (d + 20)) W K3) v0 v1 s v8 v9 (Int.ofNat i) (Int.ofNat 7) (Int.ofNat 0) .nils l6 (Int.ofNat 0) .nils (Int.ofNat 10) (Int.ofNat 0) .nils l7 (Int.ofNat 0) .nils σ =
        K3 v0 v1 s' v8' v9' (Int.ofNat i) (Int.ofNat 7) (Int.ofNat 0) .nils l6' (Int.ofNat 0) .nils (Int.ofNat 10) (Int.ofNat 0) .nils l7' (Int.ofNat 0) .nils σ' := by
  have low : ∀ σ1, Fr Nowhere ⟨100, []⟩ σ1 → lookF σ1.bl 50 = none ∧ lookF σ1.bl 51 = none := fun σ1 f => ⟨f.same 50 (by decide) (fun h => h), f.same 51 (by decide) (fun h => h)⟩
  have hvi := hv i hi
  have sl := (tl_ok i (by omega)).2
  have sln : s.len ≤ 250 := by rw [← BS.length_nats, hs]; omega
  -- digits
  obtain ⟨σ1, g1, f1⟩ := xDig (d + 19) ho.f.tidy (show i < 10 by omega)
  obtain ⟨σ2, g2, f2⟩ := xDig (d + 19) f1.tidy (show i < 10 by omega)
  have o2 := (ho.fr f1).fr f2
  have ldg : (ofN [48 + i]).len = 1 := rfl
  have r3 : ∀ κ, iaddrSK 1 v0 (Int.ofNat i) (fun b o => ldK E σ2 b o κ) = κ (.int .i64 (vals i)) := fun κ => h0.rd σ2 i κ hi (low σ2 o2.f).1
  -- the list's value
  obtain ⟨σ3, e3, f3, a3, n3⟩ := mk_new o2.f.tidy (Vc.int (vals i)).c
  have o3 := o2.fr f3
  obtain ⟨u7, σ4, g4, o4, q4⟩ := o3.app (E := E) (bytes := 96) (n := 1) (x := .sl σ2.next 0 1 (.ex 1)) (m := (Vc.int (vals i)).c) 3 (by decide) (.inr ⟨σ2.next, 0, _, (Vc.int (vals i)).c, rfl, a3, Nat.le_refl _, rfl⟩) (one6 _) (grow1 (show i ≤ 1000 by omega))
  have r4 : ∀ κ, iaddrSK 1 v0 (Int.ofNat i) (fun b o => ldK E σ4 b o κ) = κ (.int .i64 (vals i)) := fun κ => h0.rd σ4 i κ hi (low σ4 o4.f).1
  obtain ⟨u5, σ5, g5, b5, f5⟩ := xRsigned (d + 19) (σ := σ4) hvi o4.f.tidy
  have o5 := o4.fr f5
  obtain ⟨u6, σ6, g6, b6, f6⟩ := xRelem (d + 18) (σ := σ5) (c := 0) (k := 2) (.inl rfl) (by decide) (by have := (sOct_length (vals i)).2; omega) false f5.tidy b5.by_
  have o6 := o5.fr f6
  have e6 : elemS 0 false 2 (sOct (vals i)) = eI 0 vals i := rfl
  rw [e6] at b6
  have bl := bF_len vals i
  have el0 := eI_length 0 vals i
  obtain ⟨u9, σ7, g7, o7, q7⟩ := o6.app (E := E) (bytes := 1) (n := (eI 0 vals i).length) (x := u6) (m := u8s (eI 0 vals i)) 1 (by decide) b6.by_ (u8s_one _) (growB (show (bF vals i).length + (eI 0 vals i).length ≤ 1000 by omega))
  -- which field is there
  have gth : ∀ κ : Bool → H → Ans, joinB κ (fun k => condK (ltF (Int.ofNat i) (Int.ofNat nb)) (iaddrSK 1 v1 (Int.ofNat i) fun b o => ldK E σ7 b o fun u => rtBool u fun x => k x σ7) (k false σ7)) = κ (there i) σ7 := fun κ => by
    rw [joinB_, ltF_nat]
    by_cases hlt : i < nb
    · rw [decide_eq_true hlt, condK_true, h1.rd σ7 i _ hlt (low σ7 o7.f).2, rtBool_bool]
    · rw [decide_eq_false hlt, condK_false, hth i (by omega)]
  have al := aF_len vals there i
  have el2 := eI_length 2 vals i
  have common : ∀ (v8' l6' : V) (σ' : H), (∀ K3 : V → V → BS → V → V → Int → Int → Int → V → V → Int → V → Int → Int → V → V → Int → V → H → Ans, ∀ t : BS,
      condK (there i) (
        let s33 := newB σ7 (.cells [(V.int .i64 (Int.ofNat 2)), (V.int .i64 (vals i)), V.nils, V.nils, (V.int .i64 (Int.ofNat 0)), V.nils])
        appK E 6 96 l6 (V.sl (H.next σ7) 0 1 (.ex 1)) s33 fun u34 s35 =>
        rtOne u34 (
        rtOne u34 (
        iaddrSK 1 v0 (Int.ofNat i) fun b36 o37 =>
        ldK E s35 b36 o37 fun u38 =>
        rtInt .i64 u38 fun x39 =>
        callK (TW (d + 20) 26 [(V.int .i64 x39)] s35) fun u40 s41 =>
        rtOne u40 (
        callK (TW (d + 20) 27 [(V.agg [(V.int .i64 (Int.ofNat 2)), (V.int .i64 (Int.ofNat i))]), (V.bool false), u40] s41) fun u42 s43 =>
        rtOne u42 (
        appK E 1 1 v8 u42 s43 fun u44 s45 =>
        rtOne u44 (
        K3 v0 v1 t u44 u9 (Int.ofNat i) (Int.ofNat 7) (Int.ofNat 0) .nils u34 (Int.ofNat 0) .nils (Int.ofNat 10) (Int.ofNat 0) .nils u7 (Int.ofNat 0) .nils s45)))))) (
        let s46 := newB σ7 (.cells [(V.int .i64 (Int.ofNat 0)), (V.int .i64 (Int.ofNat 0)), V.nils, V.nils, (V.int .i64 (Int.ofNat 0)), V.nils])
        appK E 6 96 l6 (V.sl (H.next σ7) 0 1 (.ex 1)) s46 fun u47 s48 =>
        rtOne u47 (
        rtOne u47 (
        K3 v0 v1 t v8 u9 (Int.ofNat i) (Int.ofNat 7) (Int.ofNat 0) .nils u47 (Int.ofNat 0) .nils (Int.ofNat 10) (Int.ofNat 0) .nils u7 (Int.ofNat 0) .nils s48))) = K3 v0 v1 t v8' u9 (Int.ofNat i) (Int.ofNat 7) (Int.ofNat 0) .nils l6' (Int.ofNat 0) .nils (Int.ofNat 10) (Int.ofNat 0) .nils u7 (Int.ofNat 0) .nils σ') →
      Own ⟨100, []⟩ σ' (slots vals there (i + 1) v8' u9 l6' u7) →
      ∃ s' v8' v9' l6' l7' σ', s'.nats = tl (i + 1) ∧ s'.canon ∧ Own ⟨100, []⟩ σ' (slots vals there (i + 1) v8' v9' l6' l7') ∧
      ∀ K1 K3, T7_2 E (TW (d + 20)) W K1 (T7_4 E (TW (d + 20)) W K3) v0 v1 s v8 v9 (Int.ofNat i) (Int.ofNat 7) (Int.ofNat 0) .nils l6 (Int.ofNat 0) .nils (Int.ofNat 10) (Int.ofNat 0) .nils l7 (Int.ofNat 0) .nils σ =
        K3 v0 v1 s' v8' v9' (Int.ofNat i) (Int.ofNat 7) (Int.ofNat 0) .nils l6' (Int.ofNat 0) .nils (Int.ofNat 10) (Int.ofNat 0) .nils l7' (Int.ofNat 0) .nils σ' := by
    intro v8' l6' σ' hK hO
    let s0 : BS := if i = 0 then s else s.cat (BS.mk 2 8236)
    have hs0 : s0.nats = tl i ++ (if i = 0 then [] else [44, 32]) := by
      show (if i = 0 then s else s.cat (BS.mk 2 8236)).nats = _
      by_cases hz : i = 0
      · rw [if_pos hz, if_pos hz, hs, List.append_nil]
      · rw [if_neg hz, if_neg hz, BS.nats_cat, hs, show (BS.mk 2 8236).nats = [44, 32] by decide +kernel]
    have s0l : s0.len ≤ 252 := by
      rw [← BS.length_nats, hs0, List.length_append]
      split <;> simp <;> omega
    let s5 : BS := ((((s0.cat (BS.mk 1 102)).cat (ofN [48 + i])).cat (BS.mk 2 23328)).cat (ofN [48 + i])).cat (BS.mk 18 6642756176126058714134333817503482137616477)
    refine ⟨s5, v8', u9, l6', u7, σ', ?_, cat_canon (by unfold BS.canon; decide +kernel), hO, fun K1 K3 => ?_⟩
    · have hd : (ofN [48 + i]).nats = [48 + i] := ofN_nats (by intro c hc; simp at hc; omega)
      show (BS.cat _ _).nats = _
      simp only [BS.nats_cat, hs0, hd]
      rw [show (BS.mk 1 102).nats = [102] by decide +kernel, show (BS.mk 2 23328).nats = [32, 91] by decide +kernel, show (BS.mk 18 6642756176126058714134333817503482137616477).nats = tail18 by decide +kernel]
      rfl
    · have k2 : T7_2 E (TW (d + 20)) W K1 (T7_4 E (TW (d + 20)) W K3) v0 v1 s v8 v9 (Int.ofNat i) (Int.ofNat 7) (Int.ofNat 0) .nils l6 (Int.ofNat 0) .nils (Int.ofNat 10) (Int.ofNat 0) .nils l7 (Int.ofNat 0) .nils σ = T7_4 E (TW (d + 20)) W K3 v0 v1 s0 v8 v9 (Int.ofNat i) (Int.ofNat 7) (Int.ofNat 0) .nils l6 (Int.ofNat 0) .nils (Int.ofNat 10) (Int.ofNat 0) .nils l7 (Int.ofNat 0) .nils σ := by
        unfold T7_2
        rw [h0.len, ltF_nat, decide_eq_true hi, condK_true, ltF_nat]
        by_cases hz : i = 0
        · rw [decide_eq_false (by omega), condK_false, show s0 = s from if_pos hz]
        · rw [decide_eq_true (by omega), condK_true, catK_of (by show s.len + 2 ≤ _; omega), show s0 = s.cat (BS.mk 2 8236) from if_neg hz]
      refine k2.trans ?_
      have wi : wrapF .u64 (Int.ofNat i) = Int.ofNat i := wrapF_nat (k := .u64) (show i ≤ 18446744073709551615 by omega)
      have L1 : (BS.mk 1 102).len = 1 := rfl
      have L2 : (BS.mk 2 23328).len = 2 := rfl
      have L3 : (BS.mk 18 6642756176126058714134333817503482137616477).len = 18 := rfl
      unfold T7_4
      rw [catK_of (by omega), wi, g1, callK_some_, rtStr_str, catK_of (by simp only [len_cat]; omega), catK_of (by simp only [len_cat]; omega), g2, callK_some_, rtStr_str, catK_of (by simp only [len_cat]; omega), catK_of (by simp only [len_cat]; omega), r3, rtInt_int]
      have e3' : newB σ2 (.cells [V.int .i64 (Int.ofNat 2), V.int .i64 (vals i), V.nils, V.nils, V.int .i64 (Int.ofNat 0), V.nils]) = σ3 := e3
      have g4' : ∀ κ, appK E 6 96 l7 (.sl σ2.next 0 1 (.ex 1)) σ3 κ = κ u7 σ4 := g4
      have g7' : ∀ κ, appK E 1 1 v9 u6 σ6 κ = κ u9 σ7 := g7
      dsimp only
      rw [e3', g4', rtOne_of q4, rtOne_of q4, r4, rtInt_int, g5, callK_some_, rtOne_of b5.1.one]
      have g6' : TW (d + 20) 27 [.agg [.int .i64 (Int.ofNat 0), .int .i64 (Int.ofNat 2)], .bool false, u5] σ5 = some (u6, σ6) := g6
      rw [g6', callK_some_, rtOne_of b6.1.one, g7', rtOne_of q7, h1.len]
      refine (gth _).trans ?_
      exact hK K3 s5
  by_cases hti : there i = true
  · obtain ⟨σ8, e8, f8, a8, n8⟩ := mk_new o7.f.tidy (Vc.int (vals i)).c
    have o8 := o7.fr f8
    obtain ⟨u10, σ9, g9, o9, q9⟩ := o8.app (E := E) (bytes := 96) (n := 1) (x := .sl σ7.next 0 1 (.ex 1)) (m := (Vc.int (vals i)).c) 2 (by decide) (.inr ⟨σ7.next, 0, _, (Vc.int (vals i)).c, rfl, a8, Nat.le_refl _, rfl⟩) (one6 _) (grow1 (show i ≤ 1000 by omega))
    have r9 : ∀ κ, iaddrSK 1 v0 (Int.ofNat i) (fun b o => ldK E σ9 b o κ) = κ (.int .i64 (vals i)) := fun κ => h0.rd σ9 i κ hi (low σ9 o9.f).1
    obtain ⟨u11, σ10, g10, b10, f10⟩ := xRsigned (d + 19) (σ := σ9) hvi o9.f.tidy
    obtain ⟨u12, σ11, g11, b11, f11⟩ := xRelem (d + 18) (σ := σ10) (c := 2) (k := i) (.inr rfl) (by omega) (by have := (sOct_length (vals i)).2; omega) false f10.tidy b10.by_
    have e11 : elemS 2 false i (sOct (vals i)) = eI 2 vals i := rfl
    rw [e11] at b11
    have o11 := (o9.fr f10).fr f11
    obtain ⟨u13, σ12, g12, o12, q12⟩ := o11.app (E := E) (bytes := 1) (n := (eI 2 vals i).length) (x := u12) (m := u8s (eI 2 vals i)) 0 (by decide) b11.by_ (u8s_one _) (growB (show (aF vals there i).length + (eI 2 vals i).length ≤ 1000 by omega))
    refine common u13 u10 σ12 (fun K3 t => ?_) ?_
    · rw [hti, condK_true]
      have e8' : newB σ7 (.cells [V.int .i64 (Int.ofNat 2), V.int .i64 (vals i), V.nils, V.nils, V.int .i64 (Int.ofNat 0), V.nils]) = σ8 := e8
      have g9' : ∀ κ, appK E 6 96 l6 (.sl σ7.next 0 1 (.ex 1)) σ8 κ = κ u10 σ9 := g9
      have g12' : ∀ κ, appK E 1 1 v8 u12 σ11 κ = κ u13 σ12 := g12
      dsimp only
      rw [e8', g9', rtOne_of q9, rtOne_of q9, r9, rtInt_int, g10, callK_some_, rtOne_of b10.1.one, g11, callK_some_, rtOne_of b11.1.one, g12', rtOne_of q12]
    · have o : Own ⟨100, []⟩ σ12 (upd (upd (upd (upd (mk4 ⟨1, (aF vals there i).length, v8, u8s (aF vals there i)⟩ ⟨1, (bF vals i).length, v9, u8s (bF vals i)⟩ ⟨6, i, l6, flatR i fun k => (gI vals there k).c⟩ ⟨6, i, l7, flatR i fun k => (Vc.int (vals k)).c⟩) 3 ⟨6, i + 1, u7, (flatR i fun k => (Vc.int (vals k)).c) ++ (Vc.int (vals i)).c⟩) 1 ⟨1, (bF vals i).length + (eI 0 vals i).length, u9, u8s (bF vals i) ++ u8s (eI 0 vals i)⟩) 2 ⟨6, i + 1, u10, (flatR i fun k => (gI vals there k).c) ++ (Vc.int (vals i)).c⟩) 0 ⟨1, (aF vals there i).length + (eI 2 vals i).length, u13, u8s (aF vals there i) ++ u8s (eI 2 vals i)⟩) := o12
      rw [upd_3, upd_1, upd_2, upd_0] at o
      unfold slots
      rw [flatR_succ, flatR_succ, show aF vals there (i + 1) = aF vals there i ++ eI 2 vals i by simp [aF, hti], show bF vals (i + 1) = bF vals i ++ eI 0 vals i from rfl, u8s_app, u8s_app, List.length_append, List.length_append, show (gI vals there i).c = (Vc.int (vals i)).c by unfold gI; rw [if_pos hti]]
      exact o
  · have htf : there i = false := by simpa using hti
    obtain ⟨σ8, e8, f8, a8, n8⟩ := mk_new o7.f.tidy Vc.abs.c
    have o8 := o7.fr f8
    obtain ⟨u10, σ9, g9, o9, q9⟩ := o8.app (E := E) (bytes := 96) (n := 1) (x := .sl σ7.next 0 1 (.ex 1)) (m := Vc.abs.c) 2 (by decide) (.inr ⟨σ7.next, 0, _, Vc.abs.c, rfl, a8, Nat.le_refl _, rfl⟩) (one6 _) (grow1 (show i ≤ 1000 by omega))
    refine common v8 u10 σ9 (fun K3 t => ?_) ?_
    · rw [htf, condK_false]
      have e8' : newB σ7 (.cells [V.int .i64 (Int.ofNat 0), V.int .i64 (Int.ofNat 0), V.nils, V.nils, V.int .i64 (Int.ofNat 0), V.nils]) = σ8 := e8
      have g9' : ∀ κ, appK E 6 96 l6 (.sl σ7.next 0 1 (.ex 1)) σ8 κ = κ u10 σ9 := g9
      dsimp only
      rw [e8', g9', rtOne_of q9, rtOne_of q9]
    · have o : Own ⟨100, []⟩ σ9 (upd (upd (upd (mk4 ⟨1, (aF vals there i).length, v8, u8s (aF vals there i)⟩ ⟨1, (bF vals i).length, v9, u8s (bF vals i)⟩ ⟨6, i, l6, flatR i fun k => (gI vals there k).c⟩ ⟨6, i, l7, flatR i fun k => (Vc.int (vals k)).c⟩) 3 ⟨6, i + 1, u7, (flatR i fun k => (Vc.int (vals k)).c) ++ (Vc.int (vals i)).c⟩) 1 ⟨1, (bF vals i).length + (eI 0 vals i).length, u9, u8s (bF vals i) ++ u8s (eI 0 vals i)⟩) 2 ⟨6, i + 1, u10, (flatR i fun k => (gI vals there k).c) ++ Vc.abs.c⟩) := o9
      rw [upd_3, upd_1, upd_2] at o
      unfold slots
      rw [flatR_succ, flatR_succ, show aF vals there (i + 1) = aF vals there i by simp [aF, htf], show bF vals (i + 1) = bF vals i ++ eI 0 vals i from rfl, u8s_app, List.length_append, show (gI vals there i).c = Vc.abs.c by unfold gI; rw [if_neg hti]]
      exact o
/-- All fields. -/
theorem loopF (d : Nat) (h0 : Arg E v0 n 50 fun i => .int .i64 (vals i)) (h1 : Arg E v1 nb 51 fun i => .bool (there i)) (hth : ∀ i, nb ≤ i → there i = false) (hv : ∀ k, k < n → In64i (vals k)) (hn : n ≤ 10) :
    ∀ (m n' i : Nat) (s : BS) (v8 v9 l6 l7 : V) (σ : H), i + m = n → m < n' → s.nats = tl i → s.canon → Own ⟨100, []⟩ σ (slots vals there i v8 v9 l6 l7) →
      ∃ s' v8' v9' l6' l7' σ', s'.nats = tl n ∧ s'.canon ∧ Own ⟨100, []⟩ σ' (slots vals there n v8' v9' l6' l7') ∧
        L7_2 E (TW (d + 20)) W N n' v0 v1 s v8 v9 (Int.ofNat i) (Int.ofNat 7) (Int.ofNat 0) .nils l6 (Int.ofNat 0) .nils (Int.ofNat 10) (Int.ofNat 0) .nils l7 (Int.ofNat 0) .nils σ =
          J7_1 E (TW (d + 20)) W N s' v8' v9' (Int.ofNat 7) (Int.ofNat 0) .nils l6' (Int.ofNat 0) .nils (Int.ofNat 10) (Int.ofNat 0) .nils l7' (Int.ofNat 0) .nils σ' := by
  intro m
  induction m with
  | zero =>
    intro n' i s v8 v9 l6 l7 σ hi hn' hs hc ho
    obtain ⟨n', rfl⟩ : ∃ k, n' = k + 1 := ⟨n' - 1, by omega⟩
    obtain rfl : i = n := by omega
    refine ⟨s, v8, v9, l6, l7, σ, hs, hc, ho, ?_⟩
    show T7_2 E (TW (d + 20)) W _ _ v0 v1 s v8 v9 (Int.ofNat i) _ _ _ _ _ _ _ _ _ _ _ _ σ = _
    unfold T7_2
    rw [h0.len, ltF_nat, decide_eq_false (by omega), condK_false]
  | succ m ih =>
    intro n' i s v8 v9 l6 l7 σ hi hn' hs hc ho
    obtain ⟨n', rfl⟩ : ∃ k, n' = k + 1 := ⟨n' - 1, by omega⟩
    obtain ⟨s1, w8, w9, m6, m7, σ1, q1, q2, q3, q4⟩ := stepF (W := W) d h0 h1 hth hv hn (show i < n by omega) hs hc ho
    obtain ⟨s2, x8, x9, k6, k7, σ2, p1, p2, p3, p4⟩ := ih n' (i + 1) s1 w8 w9 m6 m7 σ1 (by omega) (by omega) q1 q2 q3
    refine ⟨s2, x8, x9, k6, k7, σ2, p1, p2, p3, ?_⟩
    refine (q4 _ _).trans ?_
    show T7_3 E (TW (d + 20)) W (L7_2 E (TW (d + 20)) W N n') v0 v1 s1 w8 w9 (Int.ofNat i) _ _ _ _ _ _ _ _ _ _ _ _ σ1 = _
    unfold T7_3
    rw [addF_nat (by omega)]
    exact p4
theorem hbytes_F {x y : V} {l : List Int} (hx : By σ x l) (hy : By σ y l) : F20 [] D W N [x, y] σ = some (.bool true, σ) := by
  show T20_0 [] D W x y σ = _
  unfold T20_0
  rw [hx.str, hy.str, BS.beq_nats, decide_eq_true rfl]
theorem Own.by_ {s : Nat → Slot} {l : List Int} (h : Own ⟨100, []⟩ σ s) (j : Nat) (hj : j < 4) (e : s j = ⟨1, l.length, (s j).v, u8s l⟩) : By σ (s j).v l := by
  have := h.d j hj
  rw [e] at this
  exact this.src
/-- What comes behind the fields. -/
theorem tailF (d : Nat) (hv : ∀ k, k < n → In64i (vals k)) (hn : n ≤ 10) {s : BS} (hs : s.nats = tl n) (hc : s.canon) {v8 v9 l6 l7 : V} (ho : Own ⟨100, []⟩ σ (slots vals there n v8 v9 l6 l7)) :
    ∃ σ', J7_1 E (TW (d + 21)) W N s v8 v9 (Int.ofNat 7) (Int.ofNat 0) .nils l6 (Int.ofNat 0) .nils (Int.ofNat 10) (Int.ofNat 0) .nils l7 (Int.ofNat 0) .nils σ = some (.bool true, σ') := by
  have sl := (tl_ok n hn).2
  have sln : s.len ≤ 250 := by rw [← BS.length_nats, hs]; omega
  have etx : ((BS.mk 55 360235906573011172289504814717822090483128856987751006770268722682284364058230054312310295327768909848561703507675267151331556859981).cat s).cat (BS.mk 32 30895564866595157683039161051334161331893094894051839636631723362949860982048) = txt n := by
    rw [← txt_is hn]
    have hb : ∀ c ∈ (preL ++ tl n) ++ postL, c < 256 := by
      intro c hc
      rcases List.mem_append.1 hc with hc | hc
      · rcases List.mem_append.1 hc with hc | hc
        · exact (by decide : ∀ c ∈ preL, c < 256) c hc
        · exact (tl_ok n hn).1 c hc
      · exact (by decide : ∀ c ∈ postL, c < 256) c hc
    refine BS.canon_ext (cat_canon (by unfold BS.canon; decide +kernel)) (ofN_canon hb) ?_
    rw [ofN_nats hb, BS.nats_cat, BS.nats_cat, hs]
    rw [show (BS.mk 55 360235906573011172289504814717822090483128856987751006770268722682284364058230054312310295327768909848561703507675267151331556859981).nats = preL by decide +kernel, show (BS.mk 32 30895564866595157683039161051334161331893094894051839636631723362949860982048).nats = postL by decide +kernel]
  obtain ⟨v, σ1, g1, ⟨nb', rb, tb, fv, hfv, tg, rfl, t⟩, f1⟩ := xTab (d + 20) ho.f.tidy hn
  have o1 := ho.fr f1
  have d6 : Dst σ1 6 n l6 (flatR n fun k => (gI vals there k).c) := o1.d 2 (by decide)
  have d7 : Dst σ1 6 n l7 (flatR n fun k => (Vc.int (vals k)).c) := o1.d 3 (by decide)
  obtain ⟨u2, σ2, g2, b2, f2⟩ := encSeq (d + 1) (nm := ⟨1, 77⟩) (nv := .sl nb' 0 2 (.op 1)) (rv := .sl rb 0 2 (.op 1)) (c := .op 13) (hl := d6.one) hv o1.f.tidy t rfl rfl (Dst.row (fun _ => rfl) d6) (Dst.beq d6)
  have o2 := o1.fr f2
  have t2 := t.fr f2 o1.f.tidy
  have d7' : Dst σ2 6 n l7 (flatR n fun k => (Vc.int (vals k)).c) := o2.d 3 (by decide)
  obtain ⟨u3, σ3, g3, b3, f3⟩ := encList (d + 1) (nm := ⟨1, 77⟩) (nv := .sl nb' 0 2 (.op 1)) (rv := .sl rb 0 2 (.op 1)) (c := .op 13) (hl := d7'.one) hv o2.f.tidy t2 rfl rfl (Dst.row (fun _ => rfl) d7')
  have o3 := o2.fr f3
  obtain ⟨σ4, g4, f4⟩ := xAw (d + 20) o3.f.tidy
  have o4 := o3.fr f4
  have ha : By σ4 v8 (aF vals there n) := (o4.d 0 (by decide)).src
  have al := aF_len vals there n
  have bl := bF_len vals n
  obtain ⟨u5, σ5, g5, b5, f5⟩ := xRelem (d + 19) (σ := σ4) (c := 0) (k := 16) (.inl rfl) (by decide) (by omega) true o4.f.tidy ha
  have o5 := o4.fr f5
  have hb : By σ5 v9 (bF vals n) := (o5.d 1 (by decide)).src
  obtain ⟨u6, σ6, g6, b6, f6⟩ := xRelem (d + 19) (σ := σ5) (c := 0) (k := 16) (.inl rfl) (by decide) (by omega) true o5.f.tidy hb
  have pa := aF_parts vals there n 0
  have pb := bF_parts vals n 0
  rw [Nat.zero_add] at pa pb
  have pa' : (partsF (fun k => !there k) (eI 2 vals) n 0).flatten = aF vals there n := by simpa [aF] using pa
  have pb' : (partsF (fun _ => false) (eI 0 vals) n 0).flatten = bF vals n := by simpa [bF] using pb
  rw [pa'] at b2
  rw [pb'] at b3
  have f25 : Fr Nowhere σ2 σ5 := (f3.trans f4 (fun _ _ h => h)).trans f5 (fun _ _ h => h)
  have x2 : By σ5 u2 (elemS 0 true 16 (aF vals there n)) := b2.by_.fr f25 f2.tidy
  have x3 : By σ6 u3 (elemS 0 true 16 (bF vals n)) := b3.by_.fr ((f4.trans f5 (fun _ _ h => h)).trans f6 (fun _ _ h => h)) f3.tidy
  refine ⟨σ6, ?_⟩
  have h25 : TW (d + 21) 20 [u2, u5] σ5 = some (.bool true, σ5) := by rw [show d + 21 = (d + 20) + 1 by rfl, DE20]; exact hbytes_F x2 b5.by_
  have h36 : TW (d + 21) 20 [u3, u6] σ6 = some (.bool true, σ6) := by rw [show d + 21 = (d + 20) + 1 by rfl, DE20]; exact hbytes_F x3 b6.by_
  have g2' : TW (d + 21) 18 [.agg [.str ⟨1, 77⟩, .sl nb' 0 2 (.op 1), .sl rb 0 2 (.op 1), .sl tb 0 (n + 3) (.op 13)], .int .i64 (Int.ofNat 0), .agg [.int .i64 (Int.ofNat 7), .int .i64 (Int.ofNat 0), .nils, l6, .int .i64 (Int.ofNat 0), .nils]] σ1 = some (.tup [u2, .int .i64 (Int.ofNat 0)], σ2) := g2
  have g3' : TW (d + 21) 18 [.agg [.str ⟨1, 77⟩, .sl nb' 0 2 (.op 1), .sl rb 0 2 (.op 1), .sl tb 0 (n + 3) (.op 13)], .int .i64 (Int.ofNat (n + 1)), .agg [.int .i64 (Int.ofNat 10), .int .i64 (Int.ofNat 0), .nils, l7, .int .i64 (Int.ofNat 0), .nils]] σ2 = some (.tup [u3, .int .i64 (Int.ofNat 0)], σ3) := g3
  have g5' : TW (d + 21) 27 [.agg [.int .i64 (Int.ofNat 0), .int .i64 (Int.ofNat 16)], .bool true, v8] σ4 = some (u5, σ5) := g5
  have g6' : TW (d + 21) 27 [.agg [.int .i64 (Int.ofNat 0), .int .i64 (Int.ofNat 16)], .bool true, v9] σ5 = some (u6, σ6) := g6
  have i0 : ∀ κ, iaddrSK 1 (.sl rb 0 2 (.op 1)) (Int.ofNat 0) κ = κ rb 0 := fun κ => by rw [iaddrSK_lt (by decide)]
  have i1 : ∀ κ, iaddrSK 1 (.sl rb 0 2 (.op 1)) (Int.ofNat 1) κ = κ rb 1 := fun κ => by rw [iaddrSK_lt (by decide)]
  have L1 : (BS.mk 55 360235906573011172289504814717822090483128856987751006770268722682284364058230054312310295327768909848561703507675267151331556859981).len = 55 := rfl
  have L2 : (BS.mk 32 30895564866595157683039161051334161331893094894051839636631723362949860982048).len = 32 := rfl
  show T7_1 E (TW (d + 21)) W s v8 v9 (Int.ofNat 7) (Int.ofNat 0) .nils l6 (Int.ofNat 0) .nils (Int.ofNat 10) (Int.ofNat 0) .nils l7 (Int.ofNat 0) .nils σ = _
  unfold T7_1
  rw [catK_of (by omega), catK_of (by simp only [len_cat]; omega), etx, g1]
  simp -implicitDefEqProofs only [↓nthK_zero, ↓nthK_succ, ↓subK_2, ↓subK_4, ↓subK_5, ↓subK_6, ↓subK_13, ↓subK_con, ↓rtInt_int, ↓rtBool_bool, ↓rtStr_str, ↓rtPtr_ptr, ↓rtAgg_agg, ↓rtTup_tup, ↓rtCons_cons, ↓rtNil_nil, ↓rtOne_nils, ↓rtOne_pt, ↓rtOne_sl, ↓slenK_nils, ↓slenK_sl, ↓callK_some_, ↓condK_ift, ↓condK_iff, ↓chk_if, ↓joinB_, cells_agg, cells_int, cells_ptr, allOne_cons, allOne_nil, one_int, one_bool, one_str, one_nils, one_sl, one_ptr, Bool.and_true, Nat.add_eq, Nat.zero_add, Bool.not_true, Bool.not_false, eqF_nat, ltF_nat, leF_nat, Nat.reduceEqDiff, Nat.reduceLT, Nat.reduceLeDiff, decide_false, decide_true, Bool.false_or, Bool.true_or, Bool.or_false, Bool.or_true, Bool.false_and, Bool.true_and, Bool.and_false, ↓i0, ↓i1, ↓ldK_is t.roots, ↓ldK_is t2.roots, ↓g2', ↓g3', ↓g4, ↓g5', ↓g6', ↓rtOne_of b5.1.one, ↓rtOne_of b6.1.one, ↓h25, ↓h36]
/-- The law. -/
theorem lawF (h0 : Arg E v0 n 50 fun i => .int .i64 (vals i)) (h1 : Arg E v1 nb 51 fun i => .bool (there i)) (hth : ∀ i, nb ≤ i → there i = false) (hv : ∀ k, k < n → In64i (vals k)) : okB (F7 E (TW 60) W 100000 [v0, v1] ⟨100, []⟩) = true := by
  have ht : Tidy ⟨100, []⟩ := fun _ _ => rfl
  by_cases hn : n ≤ 10
  · obtain ⟨s, v8, v9, l6, l7, σ, q1, q2, q3, q4⟩ := loopF (W := W) (N := 100000) 40 h0 h1 hth hv hn n 100000 0 (BS.mk 0 0) .nils .nils .nils .nils ⟨100, []⟩ (by omega) (by omega) (by decide +kernel) (by unfold BS.canon; decide) ⟨Fr.refl ht, fun j hj => by
      have : j = 0 ∨ j = 1 ∨ j = 2 ∨ j = 3 := by omega
      rcases this with rfl | rfl | rfl | rfl
      · exact Dst.nil _ _
      · exact Dst.nil _ _
      · exact Dst.nil _ _
      · exact Dst.nil _ _, fun j hj b hb => by
      have : j = 0 ∨ j = 1 ∨ j = 2 ∨ j = 3 := by omega
      rcases this with rfl | rfl | rfl | rfl <;> exact hb.elim, fun i j hi _ _ b hb => by
      have : i = 0 ∨ i = 1 ∨ i = 2 ∨ i = 3 := by omega
      rcases this with rfl | rfl | rfl | rfl <;> exact hb.elim⟩
    obtain ⟨σ', e⟩ := tailF (E := E) (W := W) (N := 100000) 39 hv hn q1 q2 q3
    have key : F7 E (TW 60) W 100000 [v0, v1] ⟨100, []⟩ = some (.bool true, σ') := by
      show T7_0 E (TW 60) W (L7_2 E (TW 60) W 100000 100000) v0 v1 ⟨100, []⟩ = _
      unfold T7_0
      rw [h0.len, ltF_nat, decide_eq_false (by omega), condK_false]
      exact q4.trans e
    rw [key]; rfl
  · obtain ⟨σ', g, _⟩ := xAw 59 ht
    have key : F7 E (TW 60) W 100000 [v0, v1] ⟨100, []⟩ = some (.bool true, σ') := by
      show T7_0 E (TW 60) W (L7_2 E (TW 60) W 100000 100000) v0 v1 ⟨100, []⟩ = _
      unfold T7_0
      rw [h0.len, ltF_nat, decide_eq_true (by omega), condK_true, g, callK_some_, rtBool_bool]
    rw [key]; rfl
end
end
end Go.Proofs.YtpbdnlclihogfaaGreatDoor
