/- What the last text leans on, part 3 of 7: merged out of smaller texts. No condition. -/
import GoSem.ClaimChange
import Derived.Below
import Derived.Test.YtgjjnbddbbhloaaGreatDoorQ1
set_option linter.unusedSimpArgs false
namespace Go.Og
variable {P : Program} {D : Den} {C : Cx}
theorem noBad_mem : ∀ {l : List AOper}, noBad l = true → ∀ o ∈ l, o.op ≠ .bad
 | [], _, o, ho => by simp at ho
 | a :: l, h, o, ho => by
  simp only [noBad, Bool.and_eq_true] at h
  rcases List.mem_cons.1 ho with rfl | ho
  ·intro hb; rw [hb] at h; cases h.1
  ·exact noBad_mem h.2 o ho
def Tok (R : Ren) (B : Bs) (x : Option Value) : Oc → Prop
 | .val v => ∃ y, x = some y ∧ conc R v = some y
 | .mark m off => ∃ i, B m = some i ∧ x = some (.pointer (some ⟨i.blk, i.shift + off, none⟩))
 | .pal d _ => ∃ i, B d = some i ∧ x = some (.pointer (some ⟨i.blk, i.shift + 0, none⟩))
theorem Tok.mono {R R' : Ren} {B B' : Bs} {x : Option Value} {c : Oc} (h : Tok R B x c) (hR : Le R R') (hB : ∀ m i, B m = some i → B' m = some i) : Tok R' B' x c := by
 cases c with
 | val v => obtain ⟨y, h1, h2⟩ := h; exact ⟨y, h1, conc_mono hR v y h2⟩
 | mark m off => obtain ⟨i, h1, h2⟩ := h; exact ⟨i, hB _ _ h1, h2⟩
 | pal d z => obtain ⟨i, h1, h2⟩ := h; exact ⟨i, hB _ _ h1, h2⟩
set_option maxHeartbeats 2000000 in
theorem draw_ok (hD : ∀ f, SoundFn P C.E C.G f (D f)) (hmix : P.follows .mixedOrders = true) {nR : Nat} {R0 : Ren} {nt : Nat} (rid : Nat) {ops : Array Oper} {l : XL} {ancs : List Nat}
    (hflat : l.flat none = ops.toList.map (compOper P C.G nt ops)) (hpl : List.zipWith DP.mk ancs l.lks = planOf ops) (hplan : planOk ops (ops.toList.map (compOper P C.G nt ops)) (planOf ops) = true)
    (hok : l.okG none none = true) (hdo : drawOk (l.flat none) ancs = true) (hanl : ancs.length = l.lks.length) (hmk : l.makes = false) (hnb : noBad (l.flat none) = true)
    {s : St} {a0 : Act} {w00 : World} {κ : Env → Qs → Rg → H → Ans} {res : V × H} (hpo : palsOk s.q l.pals = true)
    (h : denL C.E D true true 0 l 0 s.e s.q s.r s.σ κ = some res) (hI : InvS C nR R0 nt s a0 w00) (Q : Exit → Act → World → Prop)
    (hQ : ∀ s' a' w', κ s'.e s'.q s'.r s'.σ = some res → InvS C nR R0 nt s' a' w' → Q .normal a' w') : (Code.region rid ops true).wp P Q a0 w00 := by
  obtain ⟨s', hrun, hκ, _⟩ := denL_run l none none none true 0 s κ res h hok (.inl ⟨rfl, rfl⟩) (fun _ => hmk)
  obtain ⟨sts, oc, ex, hst0, hs', hat⟩ := run_chain hrun
  rw [zip_len] at hs'
  obtain ⟨hfl1, hfl2⟩ := flat_len l none
  have hsz : l.size = ops.size := by rw [← hfl1, hflat]; simp
  generalize hnn : ops.size = n at *
  rw [hsz] at hs'
  have F := planOk_ok (l := ops.toList.map (compOper P C.G nt ops)) (by simp) hplan
  have hgood : ∀ (i : Nat) (o : Oper), ops[i]? = some o → ∃ g, compOper P C.G nt ops o = ⟨o.dst, compOp P C.G o.op, g⟩ ∧ compG ops o.guard = some g ∧ dstOk nt o.dst = true := by
    intro i o ho
    have hmem : compOper P C.G nt ops o ∈ l.flat none := by
      rw [hflat, List.mem_map]
      exact ⟨o, by simpa using Array.mem_of_getElem? ho, rfl⟩
    have hb := noBad_mem hnb _ hmem
    unfold compOper at hb ⊢
    split at hb
    · rename_i g h1 h2; exact ⟨g, rfl, h1, h2⟩
    · exact (hb rfl).elim
  have hlt : ∀ {i : Nat} {o : Oper}, ops[i]? = some o → i < n := fun {i o} ho => by
    rcases Nat.lt_or_ge i ops.size with h | h
    · omega
    · rw [Array.getElem?_eq_none h] at ho; cases ho
  have some3 : ∀ (i : Nat), i < n → ∃ (o : Oper) (p : DP), ops[i]? = some o ∧ (planOf ops)[i]? = some p ∧ ancs.getD i 0 = p.anc ∧ (l.flat none)[i]? = some (compOper P C.G nt ops o) ∧ At C.E D (sts i) (compOper P C.G nt ops o) p.looks (oc i) (ex i) (sts (i + 1)) := by
    intro i hi
    have h1 : i < ops.size := by omega
    have ho : ops[i]? = some ops[i] := Array.getElem?_eq_getElem h1
    have hf : (l.flat none)[i]? = some (compOper P C.G nt ops ops[i]) := by
      rw [hflat, List.getElem?_map, Array.getElem?_toList, ho]; rfl
    have hk : l.lks[i]? = some (l.lks[i]'(by omega)) := List.getElem?_eq_getElem _
    have ha : ancs[i]? = some (ancs[i]'(by omega)) := List.getElem?_eq_getElem _
    refine ⟨ops[i], ⟨ancs[i]'(by omega), l.lks[i]'(by omega)⟩, ho, ?_, ?_, hf, ?_⟩
    · rw [← hpl, List.getElem?_zipWith, ha, hk]
    · rw [List.getD_eq_getElem?_getD, ha]; rfl
    · exact hat i _ _ (by rw [List.getElem?_zip_eq_some]; exact ⟨hf, hk⟩)
  have hdlt : ∀ (i : Nat) (o : Oper) (t : Nat), ops[i]? = some o → o.dst = some t → t < nt := by
    intro i o t ho ht
    obtain ⟨g, _, _, hd⟩ := hgood i o ho
    rw [ht] at hd; simpa [dstOk] using hd
  have hdu : ∀ (i k : Nat) (o o' : Oper) (t : Nat), i ≠ k → ops[i]? = some o → ops[k]? = some o' → o.dst = some t → o'.dst ≠ some t := by
    intro i k o o' t hne ho ho' ht
    obtain ⟨o1, p1, h1, h2, _⟩ := some3 i (hlt ho)
    obtain ⟨o2, p2, h3, h4, _⟩ := some3 k (hlt ho')
    exact (F.dsts i k o o' p1 p2 hne ho ho' h2 h4 t ht).1
  have hpald : ∀ (k m : Nat) (z : List V), k < n → oc k = .pal m z → ex k = true ∧ ∃ (o : Oper) (el : TypeId), ops[k]? = some o ∧ o.dst = some m ∧ compOp P C.G o.op = .alloc el z := by
    intro k m z hk hc
    obtain ⟨o, p, ho, _, _, _, hA⟩ := some3 k hk
    obtain ⟨g, hg, _, _⟩ := hgood k o ho
    rw [hg] at hA
    rw [hc] at hA
    generalize ex k = x at hA ⊢
    cases hA with
    | pal _ d el z hd ho' hw h => exact ⟨rfl, o, el, ho, hd, ho'⟩
  have hpalu : ∀ (k k' m : Nat) (z z' : List V), k < n → k' < n → oc k = .pal m z → oc k' = .pal m z' → k = k' := by
    intro k k' m z z' hk hk' h1 h2
    rcases Nat.decEq k k' with hne | he
    · exfalso
      obtain ⟨_, o, _, ho, hd, _⟩ := hpald k m z hk h1
      obtain ⟨_, o', _, ho', hd', _⟩ := hpald k' m z' hk' h2
      exact hdu k k' o o' m hne ho ho' hd hd'
    · exact he
  let W : Nat → Prop := fun i => ex i = true ∧ ∃ o : Oper, ops[i]? = some o ∧ (compOp P C.G o.op).cls = .k
  have seg : ∀ (p i : Nat), p ≤ i → i ≤ n → (∀ k : Nat, p ≤ k → k < i → ¬ W k) → (sts i).σ = (sts p).σ ∧ (∀ m, (∀ k z, p ≤ k → k < i → oc k ≠ .pal m z) → look (sts i).r m = look (sts p).r m) ∧
      (∀ k m z, p ≤ k → k < i → oc k = .pal m z → look (sts i).r m = some z) := by
    intro p i
    induction i with
    | zero =>
      intro hpi _ _
      have : p = 0 := by omega
      subst this
      exact ⟨rfl, fun _ _ => rfl, fun k m z h1 h2 => by omega⟩
    | succ i ih =>
      intro hpi' hin hW
      by_cases hpe : p = i + 1
      · subst hpe; exact ⟨rfl, fun _ _ => rfl, fun k m z h1 h2 => by omega⟩
      have hpi : p ≤ i := by omega
      have ih := ih hpi
      obtain ⟨h1, h2, h3⟩ := ih (by omega) (fun k hk1 hk2 => hW k hk1 (by omega))
      obtain ⟨o, p', ho, _, _, _, hA⟩ := some3 i (by omega)
      obtain ⟨g, hg, _, _⟩ := hgood i o ho
      rw [hg] at hA
      have same : (sts (i + 1)).σ = (sts i).σ → (sts (i + 1)).r = (sts i).r → (∀ m z, oc i ≠ .pal m z) → (sts (i + 1)).σ = (sts p).σ ∧ (∀ m, (∀ k z, p ≤ k → k < i + 1 → oc k ≠ .pal m z) → look (sts (i + 1)).r m = look (sts p).r m) ∧
          (∀ k m z, p ≤ k → k < i + 1 → oc k = .pal m z → look (sts (i + 1)).r m = some z) := by
        intro e1 e2 hnp
        refine ⟨e1.trans h1, fun m hm => by rw [e2]; exact h2 m (fun k z hk1 hk2 => hm k z hk1 (by omega)), fun k m z hk1 hk2 hkc => ?_⟩
        rw [e2]
        by_cases hki : k = i
        · subst hki; exact (hnp _ _ hkc).elim
        · exact h3 k m z hk1 (by omega) hkc
      have hWi := hW i hpi (by omega)
      generalize hoc : oc i = c at hA
      generalize hex : ex i = x at hA
      cases hA with
      | skip _ hw h => exact same h.2.2.2 h.2.2.1 (fun m z hh => by rw [hoc] at hh; cases hh)
      | val _ pw v r' σ' hw hs hl hna h =>
        obtain ⟨e1, e2⟩ := step_still hs (fun hk => hWi ⟨hex, o, ho, hk⟩) hna
        exact same (h.2.2.2.trans e2) (h.2.2.1.trans e1) (fun m z hh => by rw [hoc] at hh; cases hh)
      | mark _ pw id nx m off hw hs h => exact same h.2.2.2 h.2.2.1 (fun m z hh => by rw [hoc] at hh; cases hh)
      | pal _ d el z hd ho' hw h =>
        have hr : (sts (i + 1)).r = (d, z) :: without [d] (sts i).r := h.2.2.1
        have hne : ∀ m, m ≠ d → look (sts (i + 1)).r m = look (sts i).r m := fun m hm => by
          rw [hr]
          simp only [look, Nat.beq_eq]
          rw [if_neg (Ne.symm hm), look_without, if_neg (fun hh => hm ((memN_one d m).1 hh).symm)]
        refine ⟨h.2.2.2.trans h1, fun m hm => ?_, fun k m z' hk1 hk2 hkc => ?_⟩
        · have hmd : m ≠ d := fun he => hm i z hpi (by omega) (by rw [hoc, he])
          rw [hne m hmd]
          exact h2 m (fun k z hk1 hk2 => hm k z hk1 (by omega))
        · by_cases hki : k = i
          · subst hki
            rw [hoc] at hkc; cases hkc
            rw [hr]; simp [look]
          · have hmd : m ≠ d := fun he => hki (hpalu k i d z' z (by omega) (by omega) (by rw [hkc, he]) hoc)
            rw [hne m hmd]
            exact h3 k m z' hk1 (by omega) hkc
  have roots : ∀ (i : Nat), i ≤ n → ∀ (t m off : Nat), look (sts i).q t = some (m, off) → ∀ k z, k < n → oc k = .pal m z → k < i := by
    intro i
    induction i with
    | zero =>
      intro _ t m off hl k z hk hc
      exfalso
      obtain ⟨_, o, el, ho, hd, hcc⟩ := hpald k m z hk hc
      obtain ⟨g, hg, _, _⟩ := hgood k o ho
      have hmem : compOper P C.G nt ops o ∈ l.flat none := by
        rw [hflat, List.mem_map]
        exact ⟨o, by simpa using Array.mem_of_getElem? ho, rfl⟩
      have := pals_mem l none hmk _ hmem m (by rw [hg]; simp only [hcc]; rfl) (by rw [hg]; exact hd)
      exact palsOk_mem hpo m this t off (hst0.2.1 t _ hl)
    | succ i ih =>
      intro hin t m off hl k z hk hc
      have ih := ih (by omega)
      obtain ⟨o, p', ho, _, _, _, hA⟩ := some3 i (by omega)
      generalize hoc : oc i = c at hA
      generalize hex : ex i = x at hA
      have old : ∀ t, look (sts i).q t = some (m, off) → k < i + 1 := fun t ht => Nat.lt_succ_of_lt (ih t m off ht k z hk hc)
      cases hA with
      | skip _ hw h =>
        have := h.2.1 t _ hl
        rw [look_without1] at this
        split at this
        · cases this
        · exact old t this
      | val _ pw v r' σ' hw hs hl' hna h =>
        have := h.2.1 t _ hl
        rw [look_without1] at this
        split at this
        · cases this
        · exact old t this
      | mark _ pw id nx m' off' hw hs h =>
        have := h.2.1 t _ hl
        rw [look_putQ] at this
        split at this
        · simp only [Option.some.injEq, Prod.mk.injEq] at this
          obtain ⟨rfl, rfl⟩ := this
          obtain ⟨x, off2, hx⟩ := mark_root hs
          cases x with
          | con v => cases hx
          | tmp u =>
            have hx : look (restrQ p'.looks (sts i).q) u = some (m', off2) := hx
            exact Nat.lt_succ_of_lt (ih u m' off2 (look_restrQ _ _ _ _ hx).1 k z hk hc)
        · rw [look_without1] at this
          split at this
          · cases this
          · exact old t this
      | pal _ d el z' hd ho' hw h =>
        have := h.2.1 t _ hl
        simp only [look, Nat.beq_eq] at this
        split at this
        · simp only [Option.some.injEq, Prod.mk.injEq] at this
          obtain ⟨rfl, rfl⟩ := this
          have := hpalu k i d z z' hk (by omega) hc hoc
          omega
        · have h2 := (look_unmark _ _ _ _ this).2
          rw [look_without] at h2
          split at h2
          · cases h2
          · exact old t h2
  have srcE : ∀ (i : Nat), i ≤ n → ∀ (t : Nat) (v : V), look (sts i).e t = some v → (∃ (k : Nat) (o' : Oper), k < i ∧ ops[k]? = some o' ∧ o'.dst = some t ∧ oc k = .val v) ∨ (look s.e t = some v ∧ ∀ (k : Nat) (o' : Oper), k < i → ops[k]? = some o' → o'.dst ≠ some t) := by
    intro i
    induction i with
    | zero => intro _ t v hl; exact .inr ⟨hst0.1 t v hl, fun k o' hk => by omega⟩
    | succ i ih =>
      intro hin t v hl
      have ih := ih (by omega)
      obtain ⟨o, p', ho, _, _, _, hA⟩ := some3 i (by omega)
      obtain ⟨g, hg, _, _⟩ := hgood i o ho
      rw [hg] at hA
      generalize hoc : oc i = c at hA
      generalize hex : ex i = x at hA
      have old : o.dst ≠ some t → look (sts i).e t = some v → (∃ (k : Nat) (o' : Oper), k < i + 1 ∧ ops[k]? = some o' ∧ o'.dst = some t ∧ oc k = .val v) ∨ (look s.e t = some v ∧ ∀ (k : Nat) (o' : Oper), k < i + 1 → ops[k]? = some o' → o'.dst ≠ some t) := by
        intro hne ht
        rcases ih t v ht with ⟨k, o', h1, h2, h3, h4⟩ | ⟨h1, h2⟩
        · exact .inl ⟨k, o', by omega, h2, h3, h4⟩
        · refine .inr ⟨h1, fun k o' hk ho' => ?_⟩
          by_cases hki : k = i
          · subst hki; rw [ho] at ho'; cases ho'; exact hne
          · exact h2 k o' (by omega) ho'
      cases hA with
      | skip _ hw h =>
        have := h.1 t _ hl
        rw [look_putE] at this
        split at this
        · rename_i hd; cases this; exact .inl ⟨i, o, by omega, ho, hd, hoc⟩
        · rename_i hd; exact old hd this
      | val _ pw v' r' σ' hw hs hl' hna h =>
        have := h.1 t _ hl
        rw [look_putE] at this
        split at this
        · rename_i hd; cases this; exact .inl ⟨i, o, by omega, ho, hd, hoc⟩
        · rename_i hd; exact old hd this
      | mark _ pw id nx m' off' hw hs h =>
        have := h.1 t _ hl
        rw [look_without1] at this
        split at this
        · cases this
        · rename_i hd; exact old hd this
      | pal _ d el z' hd ho' hw h =>
        have := h.1 t _ hl
        rw [look_without] at this
        split at this
        · cases this
        · rename_i hm
          exact old (fun hh => hm ((memN_one d t).2 (by rw [show o.dst = some d from hd] at hh; simpa using hh))) this
  have srcQ : ∀ (i : Nat), i ≤ n → ∀ (t m off : Nat), look (sts i).q t = some (m, off) → (∃ (k : Nat) (o' : Oper), k < i ∧ ops[k]? = some o' ∧ o'.dst = some t ∧ (oc k = .mark m off ∨ ∃ z, oc k = .pal m z ∧ off = 0)) ∨
      (look s.q t = some (m, off) ∧ ∀ (k : Nat) (o' : Oper), k < i → ops[k]? = some o' → o'.dst ≠ some t) := by
    intro i
    induction i with
    | zero => intro _ t m off hl; exact .inr ⟨hst0.2.1 t _ hl, fun k o' hk => by omega⟩
    | succ i ih =>
      intro hin t m off hl
      have ih := ih (by omega)
      obtain ⟨o, p', ho, _, _, _, hA⟩ := some3 i (by omega)
      obtain ⟨g, hg, _, _⟩ := hgood i o ho
      rw [hg] at hA
      generalize hoc : oc i = c at hA
      generalize hex : ex i = x at hA
      have old : o.dst ≠ some t → look (sts i).q t = some (m, off) → (∃ (k : Nat) (o' : Oper), k < i + 1 ∧ ops[k]? = some o' ∧ o'.dst = some t ∧ (oc k = .mark m off ∨ ∃ z, oc k = .pal m z ∧ off = 0)) ∨
          (look s.q t = some (m, off) ∧ ∀ (k : Nat) (o' : Oper), k < i + 1 → ops[k]? = some o' → o'.dst ≠ some t) := by
        intro hne ht
        rcases ih t m off ht with ⟨k, o', h1, h2, h3, h4⟩ | ⟨h1, h2⟩
        · exact .inl ⟨k, o', by omega, h2, h3, h4⟩
        · refine .inr ⟨h1, fun k o' hk ho' => ?_⟩
          by_cases hki : k = i
          · subst hki; rw [ho] at ho'; cases ho'; exact hne
          · exact h2 k o' (by omega) ho'
      cases hA with
      | skip _ hw h =>
        have := h.2.1 t _ hl
        rw [look_without1] at this
        split at this
        · cases this
        · rename_i hd; exact old hd this
      | val _ pw v' r' σ' hw hs hl' hna h =>
        have := h.2.1 t _ hl
        rw [look_without1] at this
        split at this
        · cases this
        · rename_i hd; exact old hd this
      | mark _ pw id nx m' off' hw hs h =>
        have := h.2.1 t _ hl
        rw [look_putQ] at this
        split at this
        · rename_i hd
          simp only [Option.some.injEq, Prod.mk.injEq] at this
          obtain ⟨rfl, rfl⟩ := this
          exact .inl ⟨i, o, by omega, ho, hd, .inl hoc⟩
        · rename_i hd
          rw [look_without1, if_neg hd] at this
          exact old hd this
      | pal _ d el z' hd ho' hw h =>
        have := h.2.1 t _ hl
        simp only [look, Nat.beq_eq] at this
        split at this
        · rename_i hdt
          simp only [Option.some.injEq, Prod.mk.injEq] at this
          obtain ⟨rfl, rfl⟩ := this
          exact .inl ⟨i, o, by omega, ho, by rw [← hdt]; exact hd, .inr ⟨z', hoc, rfl⟩⟩
        · rename_i hdt
          have h2 := (look_unmark _ _ _ _ this).2
          rw [look_without] at h2
          split at h2
          · cases h2
          · exact old (fun hh => hdt (by rw [show o.dst = some d from hd] at hh; simpa using hh)) h2
  obtain ⟨Rs, Bs0, hx0, hn0, hm0, he0, hq0, hnt0, hd0⟩ := hI
  let Bi : Bs := fun m => if memN l.pals m = true then none else Bs0 m
  have hpalm : ∀ (k m : Nat) (z : List V), k < n → oc k = .pal m z → memN l.pals m = true := by
    intro k m z hk hc
    obtain ⟨_, o, el, ho, hd, hcc⟩ := hpald k m z hk hc
    obtain ⟨g, hg, _, _⟩ := hgood k o ho
    have hmem : compOper P C.G nt ops o ∈ l.flat none := by
      rw [hflat, List.mem_map]
      exact ⟨o, by simpa using Array.mem_of_getElem? ho, rfl⟩
    exact pals_mem l none hmk _ hmem m (by rw [hg]; simp only [hcc]; rfl) (by rw [hg]; exact hd)
  let Inv : Array Bool → Act → World → Prop := fun listed a w =>
    listed.size = n ∧ (∀ (i : Nat) (o : Oper), listed.getD i false = true → ops[i]? = some o → ∀ ed ∈ o.after, Region.binds .any ed = true → listed.getD ed.on false = true) ∧ a.defers = [] ∧
    ∃ (R : Ren) (B : Bs) (p : Nat) (rL : Rg), p ≤ n ∧ (p = 0 ∨ ∃ j, p = j + 1 ∧ W j ∧ listed.getD j false = true) ∧ (∀ j, j < n → W j → (listed.getD j false = true ↔ j < p)) ∧ Ext nR R0 R ∧ nR ≤ (sts p).σ.next ∧
      MemI C R B rL (sts p).σ w ∧ (∀ k m z, p ≤ k → k < n → listed.getD k false = true → oc k = .pal m z → look rL m = some z) ∧
      (∀ m, (∀ k z, p ≤ k → k < n → listed.getD k false = true → oc k ≠ .pal m z) → look rL m = look (sts p).r m) ∧
      (∀ k m z, k < n → oc k = .pal m z → listed.getD k false = false → B m = none) ∧ nt ≤ a.tmps.size ∧
      (∀ (i : Nat) (o : Oper) (t : Nat), listed.getD i false = true → ops[i]? = some o → o.dst = some t → Tok R B a.tmps[t]? (oc i)) ∧
      (∀ t v, look s.e t = some v → (∀ (i : Nat) (o : Oper), listed.getD i false = true → ops[i]? = some o → o.dst ≠ some t) → ∃ x, a.tmps[t]? = some x ∧ conc R v = some x) ∧
      (∀ t m off, look s.q t = some (m, off) → (∀ (i : Nat) (o : Oper), listed.getD i false = true → ops[i]? = some o → o.dst ≠ some t) → ∃ i, B m = some i ∧ a.tmps[t]? = some (.pointer (some ⟨i.blk, i.shift + off, none⟩)))
  have hanc : ∀ (listed : Array Bool), (∀ (i : Nat) (o : Oper), listed.getD i false = true → ops[i]? = some o → ∀ ed ∈ o.after, Region.binds .any ed = true → listed.getD ed.on false = true) →
      ∀ (i : Nat) (o : Oper) (p : DP), ops[i]? = some o → (planOf ops)[i]? = some p → (∀ ed ∈ o.after, Region.binds .any ed = true → listed.getD ed.on false = true) → ∀ (k : Nat), k < n → p.anc.testBit k = true → listed.getD k false = true := by
    intro listed hcl i
    induction i using Nat.strongRecOn with
    | _ i ih =>
      intro o p ho hp hed k hk hb
      obtain ⟨ed, hem, hbe, hr⟩ := F.anc i o p ho hp k (by omega) hb
      have hlt' := F.edges i o ho ed hem hbe
      have hli := hed ed hem hbe
      rcases hr with rfl | hr
      · exact hli
      · have hin : i < n := hlt ho
        obtain ⟨o2, p2, h1, h3, _⟩ := some3 ed.on (by omega)
        exact ih ed.on hlt' o2 p2 h1 h3 (fun ed2 hm2 hb2 => hcl ed.on o2 hli h1 ed2 hm2 hb2) k hk (by rw [← ancOf_eq h3]; exact hr)
  have hready_nil : ∀ listed : Array Bool, listed.size = n → Region.ready .any ops listed = [] → ∀ k, k < n → listed.getD k false = true := by
    intro listed hsz' hr k
    induction k using Nat.strongRecOn with
    | _ k ih =>
      intro hk
      cases hb : listed.getD k false with
      | true => rfl
      | false =>
        exfalso
        obtain ⟨o, p, h1, _⟩ := some3 k hk
        have : k ∈ Region.ready .any ops listed := mem_ready.2 ⟨by rw [getD_true_iff hsz' hk]; exact hb, o, h1, fun ed hm hbd => ih ed.on (F.edges k o h1 ed hm hbd) (by have := F.edges k o h1 ed hm hbd; omega)⟩
        rw [hr] at this; cases this
  have hnone : ∀ (listed : Array Bool), (∀ (i : Nat) (o : Oper), listed.getD i false = true → ops[i]? = some o → ∀ ed ∈ o.after, Region.binds .any ed = true → listed.getD ed.on false = true) →
      ∀ (j : Nat) (t : Nat), j ≤ n → (j < n → ∃ o p, ops[j]? = some o ∧ (planOf ops)[j]? = some p ∧ listed.getD j false = false ∧ memN p.looks t = true) →
      (∀ (k : Nat) (o' : Oper), k < j → ops[k]? = some o' → o'.dst ≠ some t) → ∀ (i : Nat) (o : Oper), listed.getD i false = true → ops[i]? = some o → o.dst ≠ some t := by
    intro listed hcl j t hj hrd hk2 i oi hli hoi hdst
    have hin : i < n := hlt hoi
    by_cases hij : i < j
    · exact hk2 i oi hij hoi hdst
    · have hjn : j < n := by omega
      obtain ⟨o, p, ho, hp, hnl, hlook⟩ := hrd hjn
      by_cases hie : i = j
      · subst hie; rw [hnl] at hli; cases hli
      · obtain ⟨o3, p3, h1, h3, _⟩ := some3 i hin
        rw [hoi] at h1; cases h1
        have hd := (F.dsts i j oi o p3 p hie hoi ho h3 hp t hdst).2 hlook
        rcases hd with hd | hd
        · have := F.ancLt j p hp i (by omega) hd; omega
        · have := hanc listed hcl i oi p3 hoi h3 (fun ed hm hb => hcl i oi hli hoi ed hm hb) j hjn hd
          rw [hnl] at this; cases this
  have hwritten : ∀ (listed : Array Bool), (∀ (i : Nat) (o : Oper), listed.getD i false = true → ops[i]? = some o → ∀ ed ∈ o.after, Region.binds .any ed = true → listed.getD ed.on false = true) →
      ∀ (j t k : Nat) (ok : Oper), j ≤ n → (j = n → ∀ k, k < n → listed.getD k false = true) → (j < n → ∃ o p, ops[j]? = some o ∧ (planOf ops)[j]? = some p ∧ memN p.looks t = true ∧ (∀ ed ∈ o.after, Region.binds .any ed = true → listed.getD ed.on false = true)) →
      k < j → ops[k]? = some ok → ok.dst = some t → listed.getD k false = true := by
    intro listed hcl j t k ok hj hall hrd hk hok' hdst
    by_cases hjn : j < n
    · obtain ⟨o, p, ho, hp, hlook, hed⟩ := hrd hjn
      obtain ⟨o3, p3, h1, h3, _⟩ := some3 k (by omega)
      rw [hok'] at h1; cases h1
      have hd := (F.dsts k j ok o p3 p (by omega) hok' ho h3 hp t hdst).2 hlook
      rcases hd with hd | hd
      · exact hanc listed hcl j o p ho hp hed k (by omega) hd
      · have := F.ancLt k p3 h3 j (by omega) hd; omega
    · exact hall (by omega) k (by omega)
  have hput : ∀ (a : Act) (d : Option Nat) (x : Value) (t : Nat), d ≠ some t → (a.put d x).tmps[t]? = a.tmps[t]? := by
    intro a d x t hne
    cases d with
    | none => rfl
    | some d =>
      simp only [Act.put, Array.getElem?_setIfInBounds]
      rw [if_neg (fun h => hne (by rw [h]))]
  have hputsz : ∀ (a : Act) (d : Option Nat) (x : Value), (a.put d x).tmps.size = a.tmps.size := by
    intro a d x; cases d <;> simp [Act.put]
  have hclsk : ∀ (listed : Array Bool), (∀ (i : Nat) (o : Oper), listed.getD i false = true → ops[i]? = some o → ∀ ed ∈ o.after, Region.binds .any ed = true → listed.getD ed.on false = true) →
      ∀ (i : Nat) (o : Oper), ops[i]? = some o → listed.getD i false = false → (∀ ed ∈ o.after, Region.binds .any ed = true → listed.getD ed.on false = true) → ∀ j, j < n → W j →
        ((compOp P C.G o.op).cls = .k → (j < i → listed.getD j false = true) ∧ (i < j → listed.getD j false = false)) ∧
        ((compOp P C.G o.op).cls = .l → (j < i → listed.getD j false = true) ∧ (i < j → listed.getD j false = false)) ∧
        ((compOp P C.G o.op).cls = .a → (i < j → listed.getD j false = false)) := by
    intro listed hcl i o ho hnl hed j hj hWj
    obtain ⟨hexj, oj, hoj, hcj⟩ := hWj
    have hi : i < n := hlt ho
    obtain ⟨o1, p1, e1, e2, e3, e4, _⟩ := some3 i hi
    rw [ho] at e1; cases e1
    obtain ⟨o2, p2, f1, f2, f3, f4, _⟩ := some3 j hj
    rw [hoj] at f1; cases f1
    obtain ⟨g1, hg1, _⟩ := hgood i o ho
    obtain ⟨g2, hg2, _⟩ := hgood j oj hoj
    have hup : ∀ k, k < n → p1.anc.testBit k = true → listed.getD k false = true := hanc listed hcl i o p1 ho e2 hed
    have hdown : p2.anc.testBit i = true → listed.getD j false = false := by
      intro hb
      cases hlj : listed.getD j false with
      | false => rfl
      | true =>
        exfalso
        have := hanc listed hcl j oj p2 hoj f2 (fun ed hm hb => hcl j oj hlj hoj ed hm hb) i hi hb
        rw [hnl] at this; cases this
    have hl1 : (ops.toList.map (compOper P C.G nt ops))[i]? = some (compOper P C.G nt ops o) := by rw [← hflat]; exact e4
    have hl2 : (ops.toList.map (compOper P C.G nt ops))[j]? = some (compOper P C.G nt ops oj) := by rw [← hflat]; exact f4
    have hkj : (compOper P C.G nt ops oj).op.cls = .k := by rw [hg2]; exact hcj
    have hdoj := allN_ok hdo j (by rw [hfl1]; omega)
    rw [f4] at hdoj
    simp only [hkj] at hdoj
    have hdoji := allN_ok hdoj i (by rw [hfl1]; omega)
    rw [e4] at hdoji
    rw [e3, f3] at hdoji
    refine ⟨fun hk => ?_, fun hk => ?_, fun hk => ?_⟩
    · have hki : (compOper P C.G nt ops o).op.cls = .k := by rw [hg1]; exact hk
      exact ⟨fun hji => hup j hj (F.kk j i _ _ p1 hji hl2 hl1 e2 hkj hki), fun hij => hdown (F.kk i j _ _ p2 hij hl1 hl2 f2 hki hkj)⟩
    · have hki : (compOper P C.G nt ops o).op.cls = .l := by rw [hg1]; exact hk
      simp only [hki, Bool.or_eq_true] at hdoji
      rcases hdoji with hb | hb
      · have := F.ancLt i p1 e2 j (by omega) hb
        exact ⟨fun _ => hup j hj hb, fun hij => by omega⟩
      · have := F.ancLt j p2 f2 i (by omega) hb
        exact ⟨fun hji => by omega, fun _ => hdown hb⟩
    · have hki : (compOper P C.G nt ops o).op.cls = .a := by rw [hg1]; exact hk
      simp only [hki, Bool.or_eq_true, Bool.not_eq_true'] at hdoji
      intro hij
      rcases hdoji with hb | hb
      · have : Nat.blt i j = true := by simpa using hij
        rw [this] at hb; cases hb
      · exact hdown hb
  have hallk : ∀ (listed : Array Bool), (∀ (i : Nat) (o : Oper), listed.getD i false = true → ops[i]? = some o → ∀ ed ∈ o.after, Region.binds .any ed = true → listed.getD ed.on false = true) →
      ∀ (i : Nat) (o : Oper), ops[i]? = some o → (∀ ed ∈ o.after, Region.binds .any ed = true → listed.getD ed.on false = true) → (compOp P C.G o.op).cls = .k → ∀ k m z, k < i → oc k = .pal m z → listed.getD k false = true := by
    intro listed hcl i o ho hed hk k m z hki hc
    have hi : i < n := hlt ho
    obtain ⟨o1, p1, e1, e2, e3, e4, _⟩ := some3 i hi
    rw [ho] at e1; cases e1
    obtain ⟨g1, hg1, _⟩ := hgood i o ho
    obtain ⟨_, ok, el, hok', hdk, hck⟩ := hpald k m z (by omega) hc
    obtain ⟨o2, p2, f1, f2, f3, f4, _⟩ := some3 k (by omega)
    rw [hok'] at f1; cases f1
    obtain ⟨g2, hg2, _⟩ := hgood k ok hok'
    have hkk : (compOper P C.G nt ops o).op.cls = .k := by rw [hg1]; exact hk
    have hdoj := allN_ok hdo i (by rw [hfl1]; omega)
    rw [e4] at hdoj
    simp only [hkk] at hdoj
    have hdoji := allN_ok hdoj k (by rw [hfl1]; omega)
    rw [f4] at hdoji
    have hka : (compOper P C.G nt ops ok).op.cls = .a := by rw [hg2]; simp only [hck]; rfl
    rw [e3] at hdoji
    simp only [hka, Bool.or_eq_true, Bool.not_eq_true'] at hdoji
    rcases hdoji with hb | hb
    · have : Nat.blt k i = true := by simpa using hki
      rw [this] at hb; cases hb
    · exact hanc listed hcl i o p1 ho e2 hed k (by omega) hb
  have hfin : ∀ listed a w, Inv listed a w → (∀ k, k < n → listed.getD k false = true) → Q .normal a w := by
    intro listed a w hI hall
    obtain ⟨hls, hcl, hd, R, B, p, rL, hpn, hp0, hpw, hx, hnp, hmem, hr1, hr2, hbs, htsz, hw, hu, hqq⟩ := hI
    have hnW : ∀ k, p ≤ k → k < n → ¬ W k := fun k h1 h2 hW => by have := (hpw k h2 hW).1 (hall k h2); omega
    obtain ⟨s1, s2, s3⟩ := seg p n hpn (Nat.le_refl _) hnW
    have hrr : ∀ m, look rL m = look (sts n).r m := by
      intro m
      by_cases hex2 : ∃ k z, p ≤ k ∧ k < n ∧ oc k = .pal m z
      · obtain ⟨k, z, h1, h2, h3⟩ := hex2
        rw [hr1 k m z h1 h2 (hall k h2) h3, s3 k m z h1 h2 h3]
      · have hno : ∀ k z, p ≤ k → k < n → oc k ≠ .pal m z := fun k z h1 h2 h3 => hex2 ⟨k, z, h1, h2, h3⟩
        rw [hr2 m (fun k z h1 h2 _ => hno k z h1 h2), s2 m hno]
    rw [hs'] at hκ
    refine hQ (sts n) a w hκ ⟨R, B, hx, by rw [s1]; exact hnp, ⟨by rw [s1]; exact hmem.rel, ⟨fun m i hm => ?_, hmem.priv.inj, by rw [s1]; exact hmem.priv.apart⟩⟩, ⟨fun t v hv => ?_⟩, ⟨fun t m off hv => ?_⟩, htsz, hd⟩
    · obtain ⟨h1, l', h2, h3⟩ := hmem.priv.at_ m i hm
      exact ⟨h1, l', by rw [← hrr]; exact h2, h3⟩
    · rcases srcE n (Nat.le_refl _) t v hv with ⟨k, o', h1, h2, h3, h4⟩ | ⟨h1, h2⟩
      · have := hw k o' t (hall k h1) h2 h3
        rw [h4] at this; exact this
      · exact hu t v h1 (hnone listed hcl n t (Nat.le_refl _) (fun h => by omega) h2)
    · rcases srcQ n (Nat.le_refl _) t m off hv with ⟨k, o', h1, h2, h3, h4⟩ | ⟨h1, h2⟩
      · have := hw k o' t (hall k h1) h2 h3
        rcases h4 with h4 | ⟨z, h4, rfl⟩
        · rw [h4] at this; exact this
        · rw [h4] at this; exact this
      · exact hqq t m off h1 (hnone listed hcl n t (Nat.le_refl _) (fun h => by omega) h2)
  have hstep : ∀ listed a w, Inv listed a w → ∀ i, i ∈ Region.ready .any ops listed → ∀ K : Act → World → Prop, (∀ a' w', Inv (listed.setIfInBounds i true) a' w' → K a' w') → wpOp P ops Q i K a w := by
    intro listed a w hI i hi K hK
    obtain ⟨hls, hcl, hd, R, B, p, rL, hpn, hp0, hpw, hx, hnp, hmem, hr1, hr2, hbs, htsz, hw, hu, hqq⟩ := hI
    obtain ⟨hli, o, ho, hed⟩ := mem_ready.1 hi
    have hin : i < n := hlt ho
    have hnl : listed.getD i false = false := by rw [← getD_true_iff hls hin]; exact hli
    obtain ⟨o2, pi, ho2, hpi, _, _, hA⟩ := some3 i hin
    rw [ho] at ho2; cases ho2
    obtain ⟨g, hg, hcg, hdok⟩ := hgood i o ho
    rw [hg] at hA
    have hsz' : i < listed.size := by omega
    have hLs : ∀ k, (listed.setIfInBounds i true).getD k false = (decide (k = i) || listed.getD k false) := fun k => set_getD hsz'
    have hLi : (listed.setIfInBounds i true).getD i false = true := by rw [hLs]; simp
    have hLo : ∀ k, k ≠ i → (listed.setIfInBounds i true).getD k false = listed.getD k false := fun k hk => by rw [hLs]; simp [hk]
    have hclk := hclsk listed hcl i o ho hnl hed
    have hmw := hmem.rel
    have hem : EnvL R (selE true pi.looks (sts i).e) a.tmps := by
      refine ⟨fun t v hv => ?_⟩
      obtain ⟨ht, hmemt⟩ := look_restr _ _ _ _ hv
      rcases srcE i (by omega) t v ht with ⟨k, o', h1, h2, h3, h4⟩ | ⟨h1, h2⟩
      · have := hw k o' t (hwritten listed hcl i t k o' (by omega) (fun h => by omega) (fun _ => ⟨o, pi, ho, hpi, hmemt, hed⟩) h1 h2 h3) h2 h3
        rw [h4] at this; exact this
      · exact hu t v h1 (hnone listed hcl i t (by omega) (fun _ => ⟨o, pi, ho, hpi, hnl, hmemt⟩) h2)
    have hqm : QOk B (selQ true pi.looks (sts i).q) a.tmps := by
      refine ⟨fun t m off hv => ?_⟩
      obtain ⟨ht, hmemt⟩ := look_restrQ _ _ _ _ hv
      rcases srcQ i (by omega) t m off ht with ⟨k, o', h1, h2, h3, h4⟩ | ⟨h1, h2⟩
      · have := hw k o' t (hwritten listed hcl i t k o' (by omega) (fun h => by omega) (fun _ => ⟨o, pi, ho, hpi, hmemt, hed⟩) h1 h2 h3) h2 h3
        rcases h4 with h4 | ⟨z, h4, rfl⟩
        · rw [h4] at this; exact this
        · rw [h4] at this; exact this
      · exact hqq t m off h1 (hnone listed hcl i t (by omega) (fun _ => ⟨o, pi, ho, hpi, hnl, hmemt⟩) h2)
    have mk : ∀ (R' : Ren) (B' : Bs) (p' : Nat) (rL' : Rg) (w' : World) (x : Value), p' ≤ n → (p' = 0 ∨ ∃ j, p' = j + 1 ∧ W j ∧ (listed.setIfInBounds i true).getD j false = true) →
        (∀ j, j < n → W j → ((listed.setIfInBounds i true).getD j false = true ↔ j < p')) → Ext nR R0 R' → nR ≤ (sts p').σ.next → MemI C R' B' rL' (sts p').σ w' →
        (∀ k m z, p' ≤ k → k < n → (listed.setIfInBounds i true).getD k false = true → oc k = .pal m z → look rL' m = some z) →
        (∀ m, (∀ k z, p' ≤ k → k < n → (listed.setIfInBounds i true).getD k false = true → oc k ≠ .pal m z) → look rL' m = look (sts p').r m) →
        (∀ k m z, k < n → oc k = .pal m z → (listed.setIfInBounds i true).getD k false = false → B' m = none) → Le R R' → (∀ m b, B m = some b → B' m = some b) →
        (∀ t, o.dst = some t → Tok R' B' (some x) (oc i)) → K (a.put o.dst x) w' := by
      intro R' B' p' rL' w' x h1 h2 h3 h4 h5 h6 h7 h8 h9 h10 h11 h12
      refine hK _ _ ⟨by rw [Array.size_setIfInBounds]; exact hls, ?_, by rw [defers_put]; exact hd, R', B', p', rL', h1, h2, h3, h4, h5, h6, h7, h8, h9, by rw [hputsz]; exact htsz, ?_, ?_, ?_⟩
      · intro i' o' hi' ho' ed hm' hb'
        rw [hLs] at hi' ⊢
        simp only [Bool.or_eq_true, decide_eq_true_eq] at hi' ⊢
        rcases hi' with rfl | hi'
        · rw [ho] at ho'; cases ho'
          exact .inr (hed ed hm' hb')
        · exact .inr (hcl i' o' hi' ho' ed hm' hb')
      · intro i' o' t hi' ho' hdt
        rw [hLs] at hi'
        simp only [Bool.or_eq_true, decide_eq_true_eq] at hi'
        by_cases he : i' = i
        · subst he
          rw [ho] at ho'; cases ho'
          have := h12 t hdt
          have htl : t < a.tmps.size := Nat.lt_of_lt_of_le (hdlt i' o t ho hdt) htsz
          have hpt : (a.put o.dst x).tmps[t]? = some x := by rw [hdt]; simp [Act.put, Array.getElem?_setIfInBounds, htl]
          rw [hpt]; exact this
        · have := hw i' o' t (hi'.resolve_left he) ho' hdt
          rw [hput a o.dst x t (hdu i' i o' o t he ho' ho hdt)]
          exact this.mono h10 h11
      · intro t v hv hno
        rw [hput a o.dst x t (hno i o hLi ho)]
        obtain ⟨y, hy1, hy2⟩ := hu t v hv (fun i' o' hi' ho' => hno i' o' (by rw [hLs, hi']; simp) ho')
        exact ⟨y, hy1, conc_mono h10 v y hy2⟩
      · intro t m off hv hno
        rw [hput a o.dst x t (hno i o hLi ho)]
        obtain ⟨b, hb1, hb2⟩ := hqq t m off hv (fun i' o' hi' ho' => hno i' o' (by rw [hLs, hi']; simp) ho')
        exact ⟨b, h11 m b hb1, hb2⟩
    have mk0 : ∀ (R' : Ren) (w' : World) (x : Value), ¬ W i → (∀ m z, oc i ≠ .pal m z) → Ext nR R0 R' → MemI C R' B rL (sts p).σ w' → Le R R' → (∀ t, o.dst = some t → Tok R' B (some x) (oc i)) → K (a.put o.dst x) w' := by
      intro R' w' x hnW hnp' h1 h2 h3 h4
      refine mk R' B p rL w' x hpn ?_ ?_ h1 hnp h2 ?_ ?_ ?_ h3 (fun _ _ h => h) h4
      · rcases hp0 with h | ⟨j, h5, h6, h7⟩
        · exact .inl h
        · exact .inr ⟨j, h5, h6, by rw [hLs, h7]; simp⟩
      · intro j hj hWj
        by_cases hji : j = i
        · subst hji; exact (hnW hWj).elim
        · rw [hLo j hji]; exact hpw j hj hWj
      · intro k m z hk1 hk2 hk3 hk4
        by_cases hki : k = i
        · subst hki; exact (hnp' m z hk4).elim
        · rw [hLo k hki] at hk3; exact hr1 k m z hk1 hk2 hk3 hk4
      · intro m hm
        refine hr2 m (fun k z hk1 hk2 hk3 => ?_)
        exact hm k z hk1 hk2 (by rw [hLs, hk3]; simp)
      · intro k m z hk1 hk2 hk3
        by_cases hki : k = i
        · subst hki; rw [hLi] at hk3; cases hk3
        · rw [hLo k hki] at hk3; exact hbs k m z hk1 hk2 hk3
    have hext : ∀ R', (∀ k, k < (sts p).σ.next → k ≠ (sts p).σ.next → R' k = R k) → Ext nR R0 R' := fun R' hk k hkn => by rw [hk k (by omega) (by omega)]; exact hx k hkn
    have hpi' : (∀ j, j < n → W j → i < j → listed.getD j false = false) → p ≤ i := by
      intro hno
      rcases hp0 with h | ⟨j, h1, h2, h3⟩
      · omega
      · rcases Nat.lt_trichotomy j i with h4 | h4 | h4
        · omega
        · subst h4; rw [hnl] at h3; cases h3
        · have hW := h2
          obtain ⟨_, oj, hoj, _⟩ := h2
          rw [hno j (hlt hoj) hW h4] at h3; cases h3
    have hnoW : (∀ j, j < n → W j → j < i → listed.getD j false = true) → ∀ k, p ≤ k → k < i → ¬ W k := by
      intro hyes k hk1 hk2 hWk
      have := (hpw k (by omega) hWk).1 (hyes k (by omega) hWk hk2)
      omega
    have hsame : p ≤ i → (∀ k, p ≤ k → k < i → ¬ W k) → (sts i).σ = (sts p).σ ∧ ∀ x m off, markX (selQ true pi.looks (sts i).q) x = some (m, off) → look rL m = look (sts i).r m := by
      intro hpi2 hnW
      obtain ⟨s1, s2, s3⟩ := seg p i hpi2 (by omega) hnW
      refine ⟨s1, fun x m off hmx => ?_⟩
      cases x with
      | con v => cases hmx
      | tmp u =>
        have hmx : look (selQ true pi.looks (sts i).q) u = some (m, off) := hmx
        obtain ⟨b, hb, _⟩ := hqm.at_ u m off hmx
        have hroot := roots i (by omega) u m off (look_restrQ _ _ _ _ hmx).1
        by_cases hex2 : ∃ k z, p ≤ k ∧ k < i ∧ oc k = .pal m z
        · obtain ⟨k, z, h1, h2, h3⟩ := hex2
          have hlk : listed.getD k false = true := by
            cases hlk : listed.getD k false with
            | true => rfl
            | false => have := hbs k m z (by omega) h3 hlk; rw [hb] at this; cases this
          rw [hr1 k m z h1 (by omega) hlk h3, s3 k m z h1 h2 h3]
        · have hno : ∀ k z, p ≤ k → k < i → oc k ≠ .pal m z := fun k z h1 h2 h3 => hex2 ⟨k, z, h1, h2, h3⟩
          rw [hr2 m (fun k z h1 h2 _ h3 => hno k z h1 (hroot k z h2 h3) h3), s2 m hno]
    have hgl := hmw.globOk
    unfold wpOp
    rw [ho]
    simp only
    generalize hoc : oc i = c at hA
    generalize hexi : ex i = xx at hA
    cases hA with
    | skip _ hwn h =>
      rw [if_neg (by rw [wanted_ok hem.env hcg hwn]; simp)]
      exact mk0 R w undef (fun hW => by have h9 := hW.1; rw [hexi] at h9; cases h9) (fun m z hh => by rw [hoc] at hh; cases hh) hx hmem (Le.refl _) (fun t _ => by rw [hoc]; exact ⟨_, rfl, rfl⟩)
    | mark _ pw id nx m off hwn hs h =>
      rw [if_pos (wanted_ok hem.env hcg hwn)]
      left
      have hs2 : Step C.E D pw (sts p).σ.next ((sts p).σ.next + 1) (compOp P C.G o.op) (selE true pi.looks (sts i).e) (selQ true pi.looks (sts i).q) rL (sts p).σ (.mark m off) := mark_any hs
      refine step_ok hD hmem hem hqm o (hmw.fresh _ (Nat.le_refl _)) (Nat.lt_succ_self _) (Nat.le_succ _) hs2 K Q (fun v2 r2 σ2 heq => by cases heq) (fun m2 off2 heq b hb => ?_)
      cases heq
      refine mk0 R w _ (fun hW => ?_) (fun m z hh => by rw [hoc] at hh; cases hh) hx hmem (Le.refl _) (fun t _ => by rw [hoc]; exact ⟨b, hb, rfl⟩)
      obtain ⟨_, o3, ho3, hc3⟩ := hW
      rw [ho] at ho3; cases ho3
      cases hs with
      | mv x _ _ hoo _ => have hoo : compOp P C.G o.op = _ ∨ compOp P C.G o.op = _ := hoo; rcases hoo with hoo | hoo <;> (rw [hoo] at hc3; cases hc3)
      | fa d x _ _ hoo _ => have hoo : compOp P C.G o.op = _ := hoo; rw [hoo] at hc3; cases hc3
    | pal _ d el z hdd hoo hwn h =>
      rw [if_pos (wanted_ok hem.env hcg hwn)]
      left
      have hoo : compOp P C.G o.op = .alloc el z := hoo
      have hdd : o.dst = some d := hdd
      have hca : (compOp P C.G o.op).cls = .a := by rw [hoo]; rfl
      have hple := hpi' (fun j hj hW hij => (hclk j hj hW).2.2 hca hij)
      have hBd : B d = none := hbs i d z hin hoc hnl
      refine pal_ok hmem o (d := d) hoo K Q (fun b w' hmem' => ?_)
      refine mk R (fun m => if m = d then some b else B m) p ((d, z) :: without [d] rL) w' _ hpn ?_ ?_ hx hnp hmem' ?_ ?_ ?_ (Le.refl _) (fun m b' hb' => ?_) (fun t _ => ?_)
      · rcases hp0 with h | ⟨j, h5, h6, h7⟩
        · exact .inl h
        · exact .inr ⟨j, h5, h6, by rw [hLs, h7]; simp⟩
      · intro j hj hWj
        by_cases hji : j = i
        · subst hji
          obtain ⟨_, o3, ho3, hc3⟩ := hWj
          rw [ho] at ho3; cases ho3
          rw [hca] at hc3; cases hc3
        · rw [hLo j hji]; exact hpw j hj hWj
      · intro k m z' hk1 hk2 hk3 hk4
        by_cases hki : k = i
        · subst hki; rw [hoc] at hk4; cases hk4; simp [look]
        · rw [hLo k hki] at hk3
          have hmd : ¬ d = m := fun he => hki (hpalu k i m z' z hk2 hin hk4 (by rw [hoc, he]))
          simp only [look, Nat.beq_eq]
          rw [if_neg hmd, look_without, if_neg (fun hh => hmd ((memN_one d m).1 hh))]
          exact hr1 k m z' hk1 hk2 hk3 hk4
      · intro m hm
        have hmd : ¬ d = m := fun he => hm i z hple hin hLi (by rw [hoc, he])
        simp only [look, Nat.beq_eq]
        rw [if_neg hmd, look_without, if_neg (fun hh => hmd ((memN_one d m).1 hh))]
        exact hr2 m (fun k z' hk1 hk2 hk3 => hm k z' hk1 hk2 (by rw [hLs, hk3]; simp))
      · intro k m z' hk1 hk2 hk3
        by_cases hki : k = i
        · subst hki; rw [hLi] at hk3; cases hk3
        · rw [hLo k hki] at hk3
          have hmd : ¬ m = d := fun he => hki (hpalu k i m z' z hk1 hin hk2 (by rw [hoc, he]))
          rw [if_neg hmd]; exact hbs k m z' hk1 hk2 hk3
      · by_cases hmd : m = d
        · subst hmd; rw [hBd] at hb'; cases hb'
        · rw [if_neg hmd]; exact hb'
      · rw [hoc]; exact ⟨b, by simp, rfl⟩
    | val _ pw v r' σ' hwn hs hl' hna h =>
      rw [if_pos (wanted_ok hem.env hcg hwn)]
      left
      have hs : Step C.E D pw (sts i).σ.next ((sts i).σ.next + 1) (compOp P C.G o.op) (selE true pi.looks (sts i).e) (selQ true pi.looks (sts i).q) (sts i).r (sts i).σ (.val v r' σ') := hs
      have hl' : o.dst = none ∨ v.live = true ∨ (compOp P C.G o.op).cls ≠ .k := hl'
      have hna : (compOp P C.G o.op).cls ≠ .a := hna
      have htok : ∀ (R' : Ren) (x : Value), ((v = .dead ∧ (compOp P C.G o.op).cls = .k) ∨ conc R' v = some x) → ∀ t, o.dst = some t → Tok R' B (some x) (oc i) := by
        intro R' x hv t ht
        rw [hoc]
        refine ⟨x, rfl, ?_⟩
        rcases hv with ⟨rfl, hc⟩ | hv
        · rcases hl' with h | h | h
          · rw [ht] at h; cases h
          · cases h
          · exact (h hc).elim
        · exact hv
      by_cases hck : (compOp P C.G o.op).cls = .k
      ·
        have hWi : W i := ⟨hexi, o, ho, hck⟩
        have hple := hpi' (fun j hj hW hij => ((hclk j hj hW).1 hck).2 hij)
        have hnW := hnoW (fun j hj hW hji => ((hclk j hj hW).1 hck).1 hji)
        obtain ⟨hσ, hrm⟩ := hsame hple hnW
        obtain ⟨s1, s2, s3⟩ := seg p i hple (by omega) hnW
        rw [hσ] at hs
        obtain ⟨rL', hs2, hrel⟩ := step_move (rL := rL) hs hrm
        refine step_ok hD hmem hem hqm o (hmw.fresh _ (Nat.le_refl _)) (Nat.lt_succ_self _) (Nat.le_succ _) hs2 K Q (fun v2 r2 σ2 heq R' w' x hle hk hn' hmem' hv => ?_) (fun m off heq => by cases heq)
        cases heq
        have hσ' : (sts (i + 1)).σ = σ' := h.2.2.2
        have hr' : (sts (i + 1)).r = r' := h.2.2.1
        have hall := hallk listed hcl i o ho hed hck
        have hold : ∀ m, (∀ k z, i ≤ k → k < n → (listed.setIfInBounds i true).getD k false = true → oc k ≠ .pal m z) → look rL m = look (sts i).r m := by
          intro m hm
          by_cases hex2 : ∃ k z, p ≤ k ∧ k < i ∧ oc k = .pal m z
          · obtain ⟨k, z, h1, h2, h3⟩ := hex2
            rw [hr1 k m z h1 (by omega) (hall k m z h2 h3) h3, s3 k m z h1 h2 h3]
          · have hno : ∀ k z, p ≤ k → k < i → oc k ≠ .pal m z := fun k z h1 h2 h3 => hex2 ⟨k, z, h1, h2, h3⟩
            rw [hr2 m (fun k z h1 h2 h3 h4 => ?_), s2 m hno]
            rcases Nat.lt_or_ge k i with h5 | h5
            · exact hno k z h1 h5 h4
            · exact hm k z h5 h2 (by rw [hLs, h3]; simp) h4
        have hmroot : ∀ x m off, markX (selQ true pi.looks (sts i).q) x = some (m, off) → ∀ k z, k < n → oc k = .pal m z → k < i := by
          intro x m off hmx
          cases x with
          | con v => cases hmx
          | tmp u =>
            have hmx : look (selQ true pi.looks (sts i).q) u = some (m, off) := hmx
            exact roots i (by omega) u m off (look_restrQ _ _ _ _ hmx).1
        refine mk R' B (i + 1) rL' w' x (by omega) (.inr ⟨i, rfl, hWi, hLi⟩) ?_ (hext R' hk) (by rw [hσ']; omega) (by rw [hσ']; exact hmem') ?_ ?_ ?_ hle (fun _ _ h => h) (htok R' x hv)
        · intro j hj hWj
          by_cases hji : j = i
          · subst hji; rw [hLi]; simp
          · rw [hLo j hji]
            rcases Nat.lt_trichotomy j i with h4 | h4 | h4
            · rw [((hclk j hj hWj).1 hck).1 h4]; simp; omega
            · exact (hji h4).elim
            · rw [((hclk j hj hWj).1 hck).2 h4]; simp; omega
        · intro k m z hk1 hk2 hk3 hk4
          have hk3' : listed.getD k false = true := by rw [hLo k (by omega)] at hk3; exact hk3
          have hb := hr1 k m z (by omega) hk2 hk3' hk4
          rcases hrel with ⟨_, h6⟩ | ⟨x', m', off', c', l', h6, h7, _, h8⟩
          · rw [h6]; exact hb
          · rw [h8]
            have hne : ¬ m' = m := fun he => by have := hmroot x' m' off' h6 k z hk2 (by rw [he]; exact hk4); omega
            rw [look_repl' (by rw [hrm x' m' off' h6]; exact h7), if_neg hne]; exact hb
        · intro m hm
          have hb := hold m (fun k z hk1 hk2 hk3 hk4 => by
            rcases Nat.eq_or_lt_of_le hk1 with h5 | h5
            · subst h5; rw [hoc] at hk4; cases hk4
            · exact hm k z (by omega) hk2 hk3 hk4)
          rw [hr']
          rcases hrel with ⟨h5, h6⟩ | ⟨x', m', off', c', l', h6, h7, h8, h9⟩
          · rw [h5, h6]; exact hb
          · rw [h8, h9, look_repl' (by rw [hrm x' m' off' h6]; exact h7), look_repl' h7, hb]
        · intro k m z hk1 hk2 hk3
          by_cases hki : k = i
          · subst hki; rw [hLi] at hk3; cases hk3
          · rw [hLo k hki] at hk3; exact hbs k m z hk1 hk2 hk3
      ·
        have hnWi : ¬ W i := fun hW => by
          obtain ⟨_, o3, ho3, hc3⟩ := hW
          rw [ho] at ho3; cases ho3
          exact hck hc3
        have go : Step C.E D pw (sts p).σ.next ((sts p).σ.next + 1) (compOp P C.G o.op) (selE true pi.looks (sts i).e) (selQ true pi.looks (sts i).q) rL (sts p).σ (.val v rL (sts p).σ) → o.wp P a w K Q := by
          intro hs2
          refine step_ok hD hmem hem hqm o (hmw.fresh _ (Nat.le_refl _)) (Nat.lt_succ_self _) (Nat.le_succ _) hs2 K Q (fun v2 r2 σ2 heq R' w' x hle hk hn' hmem' hv => ?_) (fun m off heq => by cases heq)
          cases heq
          exact mk0 R' w' x hnWi (fun m z hh => by rw [hoc] at hh; cases hh) (hext R' hk) hmem' hle (htok R' x hv)
        cases hcls : (compOp P C.G o.op).cls with
        | k => exact (hck hcls).elim
        | a => exact (hna hcls).elim
        | p =>
          refine go ?_
          cases hs with
          | p _ hc h9 => exact .p v hc h9
          | l _ hc h9 => rw [hcls] at hc; cases hc
          | a _ b hc h9 => rw [hcls] at hc; cases hc
          | k _ σ1 _ hc h hs => rw [hcls] at hc; cases hc
          | ld x m off l _ hoo hm hl h => rw [hoo] at hcls; cases hcls
          | ldn n x m off l hoo hm hl h => rw [hoo] at hcls; cases hcls
          | st n x y m off l cs u hw hoo hm hl hn hu hlu hcs h1 hlen h => rw [hoo] at hcls; cases hcls
        | l =>
          have hple := hpi' (fun j hj hW hij => ((hclk j hj hW).2.1 hcls).2 hij)
          have hnW := hnoW (fun j hj hW hji => ((hclk j hj hW).2.1 hcls).1 hji)
          obtain ⟨hσ, hrm⟩ := hsame hple hnW
          rw [hσ] at hs
          obtain ⟨rL', hs2, _⟩ := step_move (rL := rL) hs hrm
          obtain ⟨e1, e2⟩ := step_still hs2 hck hna
          rw [e1, e2] at hs2
          exact go hs2
  have hany : ∀ fuel listed a w, Inv listed a w → (List.range n).countP (fun k => !listed.getD k false) ≤ fuel → wpAny P .any ops Q fuel listed a w := by
    intro fuel
    induction fuel with
    | zero =>
      intro listed a w hI hcnt
      have hall : ∀ k, k < n → listed.getD k false = true := by
        intro k hk
        have h0 : (List.range n).countP (fun k => !listed.getD k false) = 0 := by omega
        have := List.countP_eq_zero.1 h0 k (List.mem_range.2 hk)
        simpa using this
      refine ⟨?_, hfin listed a w hI hall⟩
      apply List.eq_nil_iff_forall_not_mem.2
      intro j hj
      obtain ⟨h1, o, h2, _⟩ := mem_ready.1 hj
      have hjn : j < n := hlt h2
      rw [getD_true_iff hI.1 hjn, hall j hjn] at h1
      cases h1
    | succ fuel ih =>
      intro listed a w hI hcnt
      refine ⟨fun hr => hfin listed a w hI (hready_nil listed hI.1 hr), fun i hi => ?_⟩
      have hin : i < n := by
        obtain ⟨_, o, h2, _⟩ := mem_ready.1 hi
        exact hlt h2
      have hnl : listed.getD i false = false := by rw [← getD_true_iff hI.1 hin]; exact (mem_ready.1 hi).1
      refine hstep listed a w hI i hi _ (fun a' w' hI' => ih _ a' w' hI' ?_)
      have hsz' : i < listed.size := by rw [hI.1]; exact hin
      have := cnt_lt (p := fun k => !(listed.setIfInBounds i true).getD k false) (q := fun k => !listed.getD k false) (fun k hk => by
        simp only [Bool.not_eq_true'] at hk ⊢
        rw [set_getD hsz'] at hk
        simp only [Bool.or_eq_false_iff] at hk
        exact hk.2) (i := i) (by simp only [hnl]; rfl) (by simp only [set_getD hsz']; simp) (List.range n) (List.mem_range.2 hin)
      omega
  refine wp_region_any hmix ?_
  rw [hnn]
  have hrepl : ∀ k, (Array.replicate n false).getD k false = false := fun k => by
    simp only [Array.getD_eq_getD_getElem?, Array.getElem?_replicate]
    split <;> rfl
  refine hany n _ a0 _ ⟨by simp, ?_, hd0, Rs, Bi, 0, s.r, Nat.zero_le _, .inl rfl, ?_, hx0, by rw [hst0.2.2.2]; exact hn0, ?_, ?_, ?_, ?_, hnt0, ?_, ?_, ?_⟩ ?_
  · intro i o hi; rw [hrepl] at hi; cases hi
  · intro j hj hW; rw [hrepl]; simp
  · rw [hst0.2.2.2]
    refine ⟨hm0.rel.drawn _, ⟨fun m i hm => ?_, fun m m' i i' hm hm' hb => ?_, fun m i hm => ?_⟩⟩
    · simp only [Bi] at hm
      split at hm
      · cases hm
      · exact hm0.priv.at_ m i hm
    · simp only [Bi] at hm hm'
      split at hm
      · cases hm
      · split at hm'
        · cases hm'
        · exact hm0.priv.inj m m' i i' hm hm' hb
    · simp only [Bi] at hm
      split at hm
      · cases hm
      · exact hm0.priv.apart m i hm
  · intro k m z h1 h2 h3; rw [hrepl] at h3; cases h3
  · intro m _; rw [hst0.2.2.1]
  · intro k m z h1 h2 _
    simp only [Bi]
    rw [if_pos (hpalm k m z h1 h2)]
  · intro i o t hi; rw [hrepl] at hi; cases hi
  · intro t v hv _; exact he0.at_ t v hv
  · intro t m off hv _
    obtain ⟨i, h1, h2⟩ := hq0.at_ t m off hv
    refine ⟨i, ?_, h2⟩
    simp only [Bi]
    rw [if_neg (fun hh => palsOk_mem hpo m hh t off hv)]
    exact h1
  · refine Nat.le_trans (List.countP_le_length) (by simp)
end Go.Og
set_option linter.unusedSimpArgs false
namespace Go.Og
variable {P : Program} {D : Den} {C : Cx}
theorem look_mem {α : Type} : ∀ {l : List (Nat × α)} {k : Nat} {a : α}, look l k = some a → (k, a) ∈ l
 | [], k, a, h => by simp [look] at h
 | (m, b) :: l, k, a, h => by
  simp only [look, Nat.beq_eq] at h
  split at h
  ·rename_i he; subst he; cases h; exact List.mem_cons_self
  ·exact List.mem_cons_of_mem _ (look_mem h)
theorem keepE_some {e : Env} : ∀ (ts : List (Nat × XTy)) (κ : Env → Ans) (res : V × H), keepE e ts κ = some res → ∃ e', (∀ t v, look e' t = some v → look e t = some v) ∧ κ e' = some res
 | [], κ, res, h => ⟨[], fun t v hv => by simp [look] at hv, h⟩
 | (t, ty) :: l, κ, res, h => by
  simp only [keepE] at h
  unfold getK at h
  simp only at h
  cases hl : look e t with
  | none => rw [hl] at h; cases h
  | some v =>
   rw [hl] at h
   have h2 := rt_some _ _ _ _ h
   obtain ⟨e', h3, h4⟩ := keepE_some l _ res h2
   refine ⟨_, fun u w hu => ?_, h4⟩
   simp only [look, Nat.beq_eq] at hu
   split at hu
   ·rename_i he; subst he; cases hu; exact hl
   ·exact h3 u w hu
theorem keepL_some {e : Env} : ∀ (ts : List (Nat × XTy)) (κ : Env → Ans) (res : V × H), keepL e ts κ = some res → ∃ e', (∀ t v, look e' t = some v → look e t = some v ∧ v.live = true) ∧ κ e' = some res
 | [], κ, res, h => ⟨[], fun t v hv => by simp [look] at hv, h⟩
 | (t, ty) :: l, κ, res, h => by
  simp only [keepL, getL] at h
  cases hl : look e t with
  | none => rw [hl] at h; cases h
  | some v =>
   rw [hl] at h
   obtain ⟨hlv, h⟩ := chk_some h
   have h2 := rt_some _ _ _ _ h
   obtain ⟨e', h3, h4⟩ := keepL_some l _ res h2
   refine ⟨_, fun u w hu => ?_, h4⟩
   simp only [look, Nat.beq_eq] at hu
   split at hu
   ·rename_i he; subst he; cases hu; exact ⟨hl, hlv⟩
   ·exact h3 u w hu
theorem keepR_some {r : Rg} : ∀ (rs : List (Nat × List XTy)) (κ : Rg → Ans) (res : V × H), keepR r rs κ = some res → ∃ r', (∀ m l, look r' m = some l → look r m = some l) ∧ (∀ m, memN (rs.map Prod.fst) m = true → ∃ l, look r' m = some l) ∧ κ r' = some res
 | [], κ, res, h => ⟨[], fun t v hv => by simp [look] at hv, fun m hm => by simp [memN] at hm, h⟩
 | (m, tys) :: l, κ, res, h => by
  simp only [keepR] at h
  cases hl : look r m with
  | none => rw [hl] at h; cases h
  | some cs =>
   rw [hl] at h
   have h2 := rts_some _ _ _ _ h
   obtain ⟨r', h3, h4, h5⟩ := keepR_some l _ res h2
   refine ⟨_, fun u w hu => ?_, fun u hu => ?_, h5⟩
   ·simp only [look, Nat.beq_eq] at hu
    split at hu
    ·rename_i he; subst he; cases hu; exact hl
    ·exact h3 u w hu
   ·simp only [look, Nat.beq_eq]
    by_cases he : m = u
    ·exact ⟨cs, by rw [if_pos he]⟩
    ·rw [if_neg he]
     simp only [List.map_cons] at hu
     exact h4 u (((memN_cons m _ u).1 hu).resolve_left he)
theorem look_keepQ : ∀ (ms rs : List Nat) (q : Qs) (t : Nat) (p : Nat × Nat), look (keepQ ms rs q) t = some p → look q t = some p ∧ memN rs p.1 = true
 | [], rs, q, t, p, h => by simp [keepQ, look] at h
 | a :: l, rs, q, t, p, h => by
  simp only [keepQ] at h
  split at h
  ·rename_i p' hp
   split at h
   ·rename_i hm
    simp only [look, Nat.beq_eq] at h
    split at h
    ·rename_i he; subst he; cases h; exact ⟨hp, hm⟩
    ·exact look_keepQ l rs q t p h
   ·exact look_keepQ l rs q t p h
  ·exact look_keepQ l rs q t p h
theorem keepS_ok {nR : Nat} {R0 : Ren} {nt : Nat} {ts : List (Nat × XTy)} {ms : List Nat} {rs : List (Nat × List XTy)} {s : St} {κ : St → Ans} {res : V × H} (h : keepS ts ms rs s κ = some res) {a : Act} {w : World} (hI : InvS C nR R0 nt s a w) :
  ∃ s0, κ s0 = some res ∧ InvS C nR R0 nt s0 a w := by
 unfold keepS at h
 obtain ⟨e', he', h⟩ := keepE_some _ _ _ h
 obtain ⟨r', hr1, hr2, h⟩ := keepR_some _ _ _ h
 obtain ⟨R, B, h1, h2, h3, h4, h5, h6, h7⟩ := hI
 refine ⟨_, h, R, fun m => if memN (rs.map Prod.fst) m = true then B m else none, h1, h2, ⟨h3.rel, ⟨fun m i hm => ?_, fun m m' i i' hm hm' => ?_, fun m i hm => ?_⟩⟩, h4.sub he', ⟨fun t m off hq => ?_⟩, h6, h7⟩
 ·split at hm
  ·rename_i hmem
   obtain ⟨hO, l, hl, hok'⟩ := h3.priv.at_ m i hm
   obtain ⟨l', hl'⟩ := hr2 m hmem
   have := hr1 m l' hl'
   rw [hl] at this; cases this
   exact ⟨hO, l, hl', hok'⟩
  ·cases hm
 ·split at hm
  ·split at hm'
   ·exact h3.priv.inj m m' i i' hm hm'
   ·cases hm'
  ·cases hm
 ·split at hm
  ·exact h3.priv.apart m i hm
  ·cases hm
 ·obtain ⟨hq1, hq2⟩ := look_keepQ _ _ _ _ _ hq
  obtain ⟨i, hi1, hi2⟩ := h5.at_ t m off hq1
  refine ⟨i, ?_, hi2⟩
  rw [if_pos hq2]; exact hi1
theorem denC_ok (hD : ∀ f, SoundFn P C.E C.G f (D f)) {W : DrawFn} (hW : SoundW P C.E C.G W) (hmix : P.follows .mixedOrders = true) (N nt : Nat) {nR : Nat} {R0 : Ren} {res : V × H} :
  ∀ (xc : XC) (c : Code), xc.strip = compC P C.G nt c → xc.ok = true → ∀ (s : St) (kn : St → Ans) (kx : Nat → St → Ans) (kr : St → Ans), denC C.E D W N xc s kn kx kr = some res →
   ∀ (a : Act) (w : World) (Q : Exit → Act → World → Prop), InvS C nR R0 nt s a w → (∀ s' a' w', kn s' = some res → InvS C nR R0 nt s' a' w' → Q .normal a' w') →
    (∀ id s' a' w', kx id s' = some res → InvS C nR R0 nt s' a' w' → Q (.exit id) a' w') → (∀ s' a' w', kr s' = some res → InvS C nR R0 nt s' a' w' → Q .ret a' w') → c.wp P Q a w := by
 intro xc
 induction xc with
 | bad => intro c _ _ s kn kx kr h; cases h
 | keep ts ms rs xc ih =>
  intro c hs hok s kn kx kr h a w Q hI hn hx hr
  rw [denC_keep] at h
  obtain ⟨s0, h, hI⟩ := keepS_ok h hI
  exact ih c hs hok s0 kn kx kr h a w Q hI hn hx hr
 | skip =>
  intro c hs hok s kn kx kr h a w Q hI hn hx hr
  cases c <;> simp only [XC.strip, compC] at hs <;> (try (cases hs; done))
  ·exact wp_skip (hn s a w h hI)
  ·rename_i i o d; cases d <;> (first | (cases hs; done) | (simp only [compC] at hs; split at hs <;> cases hs))
 | exit id =>
  intro c hs hok s kn kx kr h a w Q hI hn hx hr
  cases c <;> simp only [XC.strip, compC] at hs <;> (try (cases hs; done))
  ·rename_i i o d; cases d <;> (first | (cases hs; done) | (simp only [compC] at hs; split at hs <;> cases hs))
  ·cases hs; exact wp_exit (hx id s a w h hI)
 | ret =>
  intro c hs hok s kn kx kr h a w Q hI hn hx hr
  cases c <;> simp only [XC.strip, compC] at hs <;> (try (cases hs; done))
  ·rename_i i o d; cases d <;> (first | (cases hs; done) | (simp only [compC] at hs; split at hs <;> cases hs))
  ·exact wp_ret (hr s a w h hI)
 | ops l =>
  intro c hs hok s kn kx kr h a w Q hI hn hx hr
  cases c <;> simp only [XC.strip, compC] at hs <;> (try (cases hs; done))
  rename_i i o d
  cases d
  case true => simp only [compC] at hs; split at hs <;> cases hs
  simp only [compC, AC.region.injEq] at hs
  rw [denC_ops] at h
  obtain ⟨s', hrun, hκ, _⟩ := denL_run l none none none true 0 s _ res h hok (.inl ⟨rfl, rfl⟩) (fun h => by cases h)
  refine wp_region_list (run_seq hD hrun o.toList a w ?_ hI (fun a' w' hI' => hn _ a' w' hκ hI'))
  obtain ⟨h1, h2⟩ := flat_len l none
  rw [List.map_fst_zip (by omega), hs]
 | draw l ancs =>
  intro c hs hok s kn kx kr h a w Q hI hn hx hr
  cases c <;> simp only [XC.strip, compC] at hs <;> (try (cases hs; done))
  rename_i i o d
  cases d <;> simp only [compC] at hs <;> (try (cases hs; done))
  split at hs
  case isFalse => cases hs
  rename_i hplan
  simp only [AC.draw.injEq] at hs
  rw [denC_draw] at h
  unfold drawK at h
  split at h
  ·rename_i hpo
   simp only [XC.ok, Bool.and_eq_true, Nat.beq_eq, Bool.not_eq_true'] at hok
   obtain ⟨⟨⟨⟨k1, k2⟩, k3⟩, k4⟩, k5⟩ := hok
   exact draw_ok hD hmix i hs.1 hs.2 hplan k1 k2 k3 k4 k5 hpo h hI Q (fun s' a' w' hκ hI' => hn s' a' w' hκ hI')
  ·cases h
 | gdraw ops pl ts =>
  intro c hs hok s kn kx kr h a w Q hI hn hx hr
  cases c <;> simp only [XC.strip, compC] at hs <;> (try (cases hs; done))
  rename_i i o d
  cases d <;> simp only [compC] at hs <;> (try (cases hs; done))
  split at hs
  case isFalse => cases hs
  rename_i hplan
  simp only [AC.draw.injEq] at hs
  obtain ⟨rfl, rfl⟩ := hs
  rw [denC_gdraw] at h
  cases h1 : W (o.toList.map (compOper P C.G nt o)) (planOf o) s.e s.σ with
  | none => rw [h1] at h; cases h
  | some q =>
   obtain ⟨e1, σ1⟩ := q
   rw [h1] at h
   obtain ⟨e', he', h⟩ := keepL_some _ _ _ h
   obtain ⟨R, B, g1, g2, g3, g4, g5, g6, g7⟩ := hI
   refine hW C rfl rfl nt i o s.e s.σ e1 σ1 hplan h1 R a w Q g3.rel g4.env g6 g7 (fun R' a' w' hx' hn' hrel' he1 hsz hd => ?_)
   refine hn _ a' w' h ⟨R', fun _ => none, g1.trans hx' g2, Nat.le_trans g2 hn', ⟨hrel', ⟨fun m i hm => (by cases hm), fun m m' i i' hm => (by cases hm), fun m i hm => (by cases hm)⟩⟩, ⟨fun t v hv => ?_⟩, ⟨fun t m off hq => (by simp [look] at hq)⟩, hsz, hd⟩
   obtain ⟨h2, h3⟩ := he' t v hv
   rcases he1.at_ t v h2 with rfl | h4
   ·cases h3
   ·exact h4
 | seq p q ihp ihq =>
  intro c hs hok s kn kx kr h a w Q hI hn hx hr
  cases c <;> simp only [XC.strip, compC] at hs <;> (try (cases hs; done))
  ·rename_i i o d; cases d <;> (first | (cases hs; done) | (simp only [compC] at hs; split at hs <;> cases hs))
  rename_i c1 c2
  simp only [AC.seq.injEq] at hs
  simp only [XC.ok, Bool.and_eq_true] at hok
  rw [denC_seq] at h
  refine wp_seq (ihp c1 hs.1 hok.1 s _ kx kr h a w _ hI (fun s' a' w' h' hI' => ?_) (fun id s' a' w' h' hI' => hx id s' a' w' h' hI') (fun s' a' w' h' hI' => hr s' a' w' h' hI'))
  exact ihq c2 hs.2 hok.2 s' kn kx kr h' a' w' Q hI' hn hx hr
 | cond o p q ihp ihq =>
  intro c hs hok s kn kx kr h a w Q hI hn hx hr
  cases c <;> simp only [XC.strip, compC] at hs <;> (try (cases hs; done))
  ·rename_i i o d; cases d <;> (first | (cases hs; done) | (simp only [compC] at hs; split at hs <;> cases hs))
  rename_i co c1 c2
  simp only [AC.cond.injEq] at hs
  obtain ⟨rfl, h1, h2⟩ := hs
  simp only [XC.ok, Bool.and_eq_true] at hok
  rw [denC_cond] at h
  obtain ⟨v, hv, _, h⟩ := getK_some h
  obtain ⟨cb, rfl, h9⟩ := rtBool_some h
  have hI2 := hI
  obtain ⟨R, B, g1, g2, g3, g4, g5, g6, g7⟩ := hI2
  have hev := ev_bool (a := a) g4.env g3.rel.globOk hv
  cases cb with
  | true => exact wp_cond_true hev (ihp c1 h1 hok.1 s kn kx kr h9 a w Q hI hn hx hr)
  | false => exact wp_cond_false hev (ihq c2 h2 hok.2 s kn kx kr h9 a w Q hI hn hx hr)
 | block id p ih =>
  intro c hs hok s kn kx kr h a w Q hI hn hx hr
  cases c <;> simp only [XC.strip, compC] at hs <;> (try (cases hs; done))
  ·rename_i i o d; cases d <;> (first | (cases hs; done) | (simp only [compC] at hs; split at hs <;> cases hs))
  rename_i i c1
  simp only [AC.block.injEq] at hs
  obtain ⟨rfl, hs⟩ := hs
  rw [denC_block] at h
  refine wp_block (ih c1 hs hok s kn _ kr h a w _ hI (fun s' a' w' h' hI' => hn s' a' w' h' hI') (fun j s' a' w' h' hI' => ?_) (fun s' a' w' h' hI' => hr s' a' w' h' hI'))
  show Exit.inBlock id Q (.exit j) a' w'
  simp only [Exit.inBlock]
  unfold blkK at h'
  split at h'
  ·rename_i hj
   rw [Nat.beq_eq] at hj
   rw [if_pos hj]; exact hn s' a' w' h' hI'
  ·rename_i hj
   rw [if_neg (fun hh => by rw [← Nat.beq_eq, hj] at hh; cases hh)]; exact hx j s' a' w' h' hI'
 | loop ts ms rs p ih =>
  intro c hs hok s kn kx kr h a w Q hI hn hx hr
  cases c <;> simp only [XC.strip, compC] at hs <;> (try (cases hs; done))
  ·rename_i i o d; cases d <;> (first | (cases hs; done) | (simp only [compC] at hs; split at hs <;> cases hs))
  rename_i c1
  simp only [AC.loop.injEq] at hs
  rw [denC_loop] at h
  obtain ⟨s0, h, hI⟩ := keepS_ok h hI
  have key : ∀ (n : Nat) (s : St) (a : Act) (w : World), iterK (fun rec s' => denC C.E D W N p s' (fun s'' => keepS ts ms rs s'' rec) kx kr) n s = some res → InvS C nR R0 nt s a w → Code.rounds P c1 Q n a w := by
   intro n
   induction n with
   | zero => intro s a w h; cases h
   | succ n ihn =>
    intro s a w h hI
    have h : denC C.E D W N p s (fun s'' => keepS ts ms rs s'' (iterK (fun rec s' => denC C.E D W N p s' (fun s'' => keepS ts ms rs s'' rec) kx kr) n)) kx kr = some res := h
    rw [rounds_succ]
    refine ih c1 hs hok s _ kx kr h a w _ hI (fun s' a' w' h' hI' => ?_) (fun id s' a' w' h' hI' => hx id s' a' w' h' hI') (fun s' a' w' h' hI' => hr s' a' w' h' hI')
    obtain ⟨s2, h2, hI2⟩ := keepS_ok h' hI'
    exact ihn s2 a' w' h2 hI2
  exact wp_loop_rounds N (key N s0 a w h hI)
theorem andThen_inv {α β : Type} {x : Result α} {g : α → World → Result β} {z : β} {w : World} (h : Result.andThen x g = .ok z w) : ∃ y w2, x = .ok y w2 ∧ g y w2 = .ok z w := by
 cases x with
 | ok y w2 => exact ⟨y, w2, rfl, h⟩
 | _ => cases h
theorem resK_ok {R : Ren} {B : Bs} {s : St} {w : World} {a : Act} (hm : MemI C R B s.r s.σ w) (he : EnvL R s.e a.tmps) (hq : QOk B s.q a.tmps) : ∀ (rs : List ResultVar) (as : List AR) (κ : List V → Ans) (res : V × H), compRs P rs = some as → resK C.E s as κ = some res →
  ∃ l xs, κ l = some res ∧ concs R l = some xs ∧ (rs.mapM (m := Sem) fun
   | .tmp t => pure (a.tmps.getD t undef)
   | .cell b t => do loadVar t (← asAddr (a.tmps.getD b undef))).run P w = .ok xs w
 | [], as, κ, res, hc, h => by
  simp only [compRs, Option.some.injEq] at hc; subst hc
  exact ⟨[], [], h, rfl, rfl⟩
 | r :: rs, as, κ, res, hc, h => by
  simp only [compRs] at hc
  cases hr : compR P r with
  | none => rw [hr] at hc; cases hc
  | some ar =>
   cases hrs : compRs P rs with
   | none => rw [hr, hrs] at hc; cases hc
   | some as' =>
    rw [hr, hrs] at hc
    simp only [Option.some.injEq] at hc
    subst hc
    have one : ∀ (C2 : Cx) (R2 : Ren) (σ2 : H) (e2 : Env) (v : V), Rel C2 R2 σ2 w → EnvOk R2 e2 a.tmps → resV C2.E e2 σ2 [ar] = some [v] → Le R R2 → (∃ x, conc R v = some x) → resK C.E s as' (fun l => κ (v :: l)) = some res →
      ∃ l xs, κ l = some res ∧ concs R l = some xs ∧ ((r :: rs).mapM (m := Sem) fun
       | .tmp t => pure (a.tmps.getD t undef)
       | .cell b t => do loadVar t (← asAddr (a.tmps.getD b undef))).run P w = .ok xs w := by
     intro C2 R2 σ2 e2 v h1 h2 h3 hle ⟨x, hx⟩ h4
     obtain ⟨xs, h5, h6⟩ := resV_ok (P := P) h1 h2 [r] [ar] [v] (by simp only [compRs, hr]) h3
     obtain ⟨y, ys, h7, h8, rfl⟩ := concs_cons.1 h5
     simp only [concs, Option.some.injEq] at h8; subst h8
     have := conc_mono hle v x hx
     rw [h7] at this; cases this
     obtain ⟨l, xs, g1, g2, g3⟩ := resK_ok hm he hq rs as' _ res hrs h4
     refine ⟨v :: l, _, g1, concs_cons.2 ⟨_, _, hx, g2, rfl⟩, ?_⟩
     rw [List.mapM_cons] at h6 ⊢
     rw [Sem.run_bind] at h6 ⊢
     obtain ⟨y2, w2, e1, e2⟩ := andThen_inv h6
     simp only [Sem.run_bind, List.mapM_nil, Sem.run_pure, Result.andThen_ok, Result.ok.injEq, List.cons.injEq, and_true] at e2
     obtain ⟨rfl, rfl⟩ := e2
     refine (congrArg (fun r => Result.andThen r _) e1).trans ?_
     simp only [Result.andThen_ok, Sem.run_bind, g3, Sem.run_pure]
    cases r with
    | tmp t =>
     simp only [compR, Option.some.injEq] at hr
     subst hr
     simp only [resK] at h
     unfold getK at h
     simp only at h
     cases hl : look s.e t with
     | none => rw [hl] at h; cases h
     | some v =>
      rw [hl] at h
      obtain ⟨x, hx1, hx2⟩ := he.at_ t v hl
      have hge : getE s.e t = v := by simp only [getE, hl]
      refine one C R s.σ s.e v hm.rel he.env ?_ (Le.refl _) ⟨x, hx2⟩ h
      simp only [resV, hge, live_of_conc hx2]
    | cell t ty =>
     simp only [compR] at hr
     cases hs : shapeOf P ty with
     | none => rw [hs] at hr; cases hr
     | some n =>
      rw [hs] at hr
      simp only [Option.some.injEq] at hr
      subst hr
      simp only [resK] at h
      split at h
      ·rename_i m off hqt
       obtain ⟨i, hi1, hi2⟩ := hq.at_ t m off hqt
       split at h
       ·rename_i cs hcs
        have hr2 := hm.priv.one hm.rel hi1 hcs
        have he2 : EnvOk (upd R s.σ.next i) [(t, .ptr s.σ.next off)] a.tmps := EnvOk.cons ⟨fun k v hk => by simp [look] at hk⟩ hi2 (conc_ptr_mk (upd_same _ _ _))
        have hle : Le R (upd R s.σ.next i) := (upd_ext R s.σ.next i).le hm.rel.fresh
        obtain ⟨_, l', hl', hok⟩ := hm.priv.at_ m i hi1
        rw [hcs] at hl'; cases hl'
        obtain ⟨arr, el, lo, hi, _, hh, _⟩ := hok
        have hgp : getE [(t, V.ptr s.σ.next off)] t = .ptr s.σ.next off := by simp [getE, look]
        have hrd : rd C.E ⟨s.σ.next + 1, [(s.σ.next, .cells cs)]⟩ s.σ.next = some cs := by simp [rd, look]
        split at h
        ·obtain ⟨v, hv, h⟩ := nthK_some h
         obtain ⟨x, hx, _⟩ := hh off v hv
         refine one _ _ _ _ v hr2 he2 ?_ hle ⟨x, hx⟩ h
         simp only [resV, hgp, hrd, hv]
        ·rename_i n
         obtain ⟨hb, h⟩ := subK_some h
         obtain ⟨xs, hxs, _⟩ := hh.cells (by simpa using hb)
         refine one _ _ _ _ _ hr2 he2 ?_ hle ⟨_, conc_agg_mk hxs⟩ h
         simp only [resV, hgp, rdN, hrd, hb, if_true]
       ·cases h
      ·obtain ⟨p, hp, _, h⟩ := getK_some h
       obtain ⟨b, o, rfl, h9⟩ := rtPtr_some h
       have hgp : getE s.e t = .ptr b o := hp
       cases n with
       | none =>
        simp only at h9
        obtain ⟨l, hl, h9⟩ := rdK_some h9
        obtain ⟨v, hv, h9⟩ := nthK_some h9
        obtain ⟨i, arr, el, fr, _, _, hold⟩ := hm.rel.read hl
        obtain ⟨x, hx, _⟩ := hold o v hv
        refine one C R s.σ s.e v hm.rel he.env ?_ (Le.refl _) ⟨x, hx⟩ h9
        simp only [resV, hgp, hl, hv]
       | some n =>
        simp only at h9
        obtain ⟨l, hl, h9⟩ := rdK_some h9
        obtain ⟨hb, h9⟩ := subK_some h9
        obtain ⟨i, arr, el, fr, _, _, hold⟩ := hm.rel.read hl
        obtain ⟨xs, hxs, _⟩ := hold.cells (by simpa using hb)
        refine one C R s.σ s.e _ hm.rel he.env ?_ (Le.refl _) ⟨_, conc_agg_mk hxs⟩ h9
        simp only [resV, hgp, rdN, hl, hb, if_true]
theorem runX_ok {E : List (Nat × Blk)} {G : Nat → Bool} (hD : ∀ f, SoundFn P E G f (D f)) {W : DrawFn} (hW : SoundW P E G W) (hmix : P.follows .mixedOrders = true) (N : Nat) {f : FuncId} {fn : Func} (hf : P.funcs[f]? = some fn)
  {xf : XFn} {af' : AFn} (hc : compF P G fn = some af') (hs : xf.strip = af') (hxok : xf.body.ok = true) (hok : callOk P f = true) : SoundFn P E G f (runX E D W N xf) := by
 intro C hE hG R σ w args xs v σ' h hrel hxs
 subst hE hG
 refine ⟨hok, ?_⟩
 unfold compF at hc
 cases hb : fn.body with
 | none => rw [hb] at hc; cases hc
 | some c =>
  cases hr : compRs P fn.results.toList with
  | none => rw [hb, hr] at hc; cases hc
  | some rs =>
   rw [hb, hr] at hc
   simp only [Option.some.injEq] at hc
   rw [← hs] at hc
   obtain ⟨nt, params, resl, body⟩ := xf
   simp only [XFn.strip, AFn.mk.injEq] at hc
   obtain ⟨rfl, rfl, _, hbody⟩ := hc
   unfold runX at h
   simp only at h
   have h := rts_some _ _ _ _ h
   have hlen := concs_length hxs
   refine calls_of_wp hf hb ?_
   have hsz : fn.ntmps ≤ (xs.toArray ++ Array.replicate (fn.ntmps - xs.toArray.size) undef).size := by simp; omega
   have harg : ∀ (l : List V) (ys : List Value) (k : Nat), concs R l = some ys → ∀ (t : Nat) (v : V), look (argE k l) t = some v → ∃ y, k ≤ t ∧ ys[t - k]? = some y ∧ conc R v = some y := by
    intro l
    induction l with
    | nil => intro ys k _ t v h; simp [argE, look] at h
    | cons u l ih =>
     intro ys k hc t v h
     obtain ⟨y, zs, hy, hz, rfl⟩ := concs_cons.1 hc
     simp only [argE, look] at h
     by_cases hk : k = t
     ·subst hk
      rw [if_pos (by simp)] at h
      cases h
      exact ⟨y, Nat.le_refl _, by simp, hy⟩
     ·rw [if_neg (by simpa using hk)] at h
      obtain ⟨q, h1, h2, h3⟩ := ih zs (k + 1) hz t v h
      exact ⟨q, by omega, by rw [show t - k = (t - (k + 1)) + 1 by omega, List.getElem?_cons_succ]; exact h2, h3⟩
   have he0 : EnvL R (argE 0 args) (xs.toArray ++ Array.replicate (fn.ntmps - xs.toArray.size) undef) := by
    refine ⟨fun k u hk => ?_⟩
    obtain ⟨y, _, h2, h3⟩ := harg args xs 0 hxs k u hk
    refine ⟨y, ?_, h3⟩
    rw [Nat.sub_zero] at h2
    have hlt : k < xs.length := by
     rcases Nat.lt_or_ge k xs.length with h | h
     ·exact h
     ·rw [List.getElem?_eq_none h] at h2; cases h2
    rw [Array.getElem?_append_left (by simpa using hlt)]
    simpa using h2
   have fin : ∀ (s' : St) (a' : Act) (w' : World), (resK C.E s' rs fun l => some (oneV l, s'.σ)) = some (v, σ') → InvS C σ.next R fn.ntmps s' a' w' →
     a'.defers = [] ∧ ∃ x, (results fn a'.tmps).run P w' = .ok x w' ∧ ∃ R' x', Ext σ.next R R' ∧ σ.next ≤ σ'.next ∧ Rel C R' σ' w' ∧ conc R' v = some x' ∧ Ending.returned x = .returned x' := by
    intro s' a' w' h' ⟨R1, B1, k1, k2, k3, k4, k5, k6, k7⟩
    obtain ⟨l, ys, g1, g2, g3⟩ := resK_ok (P := P) k3 k4 k5 fn.results.toList rs _ _ hr h'
    simp only [Option.some.injEq, Prod.mk.injEq] at g1
    obtain ⟨rfl, rfl⟩ := g1
    have hres : (results fn a'.tmps).run P w' = .ok (if h : ys.toArray.size = 1 then ys.toArray[0] else .tuple ys.toArray) w' := by
     unfold results
     refine (Sem.run_bind P w' _ _).trans ?_
     rw [Array.mapM_eq_mapM_toList, Sem.run_map]
     refine (congrArg (fun r => Result.andThen (Result.andThen r _) _) g3).trans rfl
    exact ⟨k7, _, hres, R1, _, k1, k2, k3.rel, oneV_ok g2, rfl⟩
   refine denC_ok (C := C) hD hW hmix N fn.ntmps body c hbody.symm hxok _ _ _ _ h _ w _ ⟨R, fun _ => none, Ext.refl _ _, Nat.le_refl _, ⟨hrel, ⟨fun m i hm => (by cases hm), fun m m' i i' hm => (by cases hm), fun m i hm => (by cases hm)⟩⟩, he0, ⟨fun t m off hq => (by simp [look] at hq)⟩, hsz, rfl⟩ ?_ ?_ ?_
   ·intro s' a' w' h' hI'
    obtain ⟨h1, x, h2, h3⟩ := fin s' a' w' h' hI'
    exact ⟨h1, x, h2, h3⟩
   ·intro id s' a' w' h' _; cases h'
   ·intro s' a' w' h' hI'
    obtain ⟨h1, x, h2, h3⟩ := fin s' a' w' h' hI'
    exact ⟨h1, x, h2, h3⟩
end Go.Og
set_option linter.unusedSimpArgs false
namespace Go.Og
def okB (a : Ans) : Bool := match a with
 | some (.bool true, _) => true
 | _ => false
theorem okB_some {a : Ans} (h : okB a = true) : ∃ σ, a = some (.bool true, σ) := by
 unfold okB at h
 split at h
 ·exact ⟨_, rfl⟩
 ·cases h
def globR (ng : Nat) : Ren := fun id => if id < ng then some ⟨id, 0, 0⟩ else none
theorem start_rel {G : Nat → Bool} {ng n0 : Nat} (hG : ∀ g, G g = true → g < ng) (hn : ng ≤ n0) (w : World) :
  Rel ⟨fun blk => w.heap.size ≤ blk, w, [], G⟩ (globR ng) ⟨n0, []⟩ w where
 fresh id hid := by
  have hid' : n0 ≤ id := hid
  unfold globR; rw [if_neg (by omega)]
 own id b hb := by simp [look] at hb
 inj id id' b b' i i' hb := by simp [look] at hb
 ext id b hb := by simp [look] at hb
 glob g hg := ⟨⟨g, 0, 0⟩, by unfold globR; rw [if_pos (hG g hg)], rfl, rfl⟩
 fr _ _ := rfl
 size := Nat.le_refl _
 new _ h := h
 os := rfl
 tape := rfl
 output := rfl
def argR (ng : Nat) (l : List (Nat × BI)) : Ren := fun id => if id < ng then some ⟨id, 0, 0⟩ else look l id
theorem ExtOk.lt {R : Ren} {i : BI} {b : Blk} {w : World} (h : ExtOk R i b w) : i.blk < w.heap.size := by
 cases b with
 | cells l =>
  obtain ⟨arr, el, fr, h1, _⟩ := h
  exact (Array.getElem?_eq_some_iff.1 h1).1
 | _ => exact h.elim
theorem start_relE {G : Nat → Bool} {ng n0 : Nat} (hG : ∀ g, G g = true → g < ng) (hn : ng ≤ n0) (l : List (Nat × BI)) (E : List (Nat × Blk)) (w : World) (hl : ∀ id i, look l id = some i → id < n0)
  (hE : ∀ id b, look E id = some b → ∃ i, argR ng l id = some i ∧ ExtOk (argR ng l) i b w) :
  Rel ⟨fun blk => w.heap.size ≤ blk, w, E, G⟩ (argR ng l) ⟨n0, []⟩ w where
 fresh id hid := by
  have hid' : n0 ≤ id := hid
  unfold argR; rw [if_neg (by omega)]
  cases hk : look l id with
  | none => rfl
  | some i => have := hl id i hk; omega
 own id b hb := by simp [look] at hb
 inj id id' b b' i i' hb := by simp [look] at hb
 ext id b hb := by
  obtain ⟨i, h1, h2⟩ := hE id b hb
  exact ⟨i, h1, Nat.not_le.2 h2.lt, h2⟩
 glob g hg := ⟨⟨g, 0, 0⟩, by unfold argR; rw [if_pos (hG g hg)], rfl, rfl⟩
 fr _ _ := rfl
 size := Nat.le_refl _
 new _ h := h
 os := rfl
 tape := rfl
 output := rfl
theorem Rel.grow {C : Cx} {R : Ren} {σ : H} {w w' : World} (h : Rel C R σ w) (hold : ∀ k, k < w.heap.size → w'.heap[k]? = w.heap[k]?) (hsz : w.heap.size ≤ w'.heap.size)
  (hos : w'.os = w.os) (htape : w'.tape = w.tape) (hout : w'.output = w.output) : Rel C R σ w' where
 fresh := h.fresh
 own id b hb := by
  obtain ⟨i, hi, hO, hok⟩ := h.own id b hb
  exact ⟨i, hi, hO, hok.mono (Le.refl _) (hold _ hok.lt)⟩
 inj := h.inj
 ext id b hb := by
  obtain ⟨i, hi, hO, hok⟩ := h.ext id b hb
  exact ⟨i, hi, hO, hok.mono (Le.refl _) (hold _ hok.lt)⟩
 glob := h.glob
 fr blk hn := by
  rcases Nat.lt_or_ge blk w.heap.size with hl | hl
  ·rw [hold blk hl]; exact h.fr blk hn
  ·exact absurd (h.new blk (Nat.le_trans h.size hl)) hn
 size := Nat.le_trans h.size hsz
 new := h.new
 os := hos.trans h.os
 tape := htape.trans h.tape
 output := hout.trans h.output
def known (D : Den) (f : Nat) (F : List V → H → Ans) : Den := fun g => match Nat.beq g f with
 | true => F
 | false => D g
end Go.Og
set_option linter.unusedSimpArgs false
set_option linter.unusedVariables false
namespace Go.Og
noncomputable section
mutual
def V.closed : V → Bool
 | .dead => false
 | .ptr _ _ => false
 | .sl _ _ _ _ => false
 | .sle _ _ _ _ => false
 | .mp _ => false
 | .fn _ a c => closeds a && closeds c
 | .ifc _ v => V.closed v
 | .agg l => closeds l
 | .tup l => closeds l
 | _ => true
def closeds : List V → Bool
 | [] => true
 | v :: l => V.closed v && closeds l
end
mutual
theorem conc_closed (R S : Ren) : ∀ v : V, V.closed v = true → conc R v = conc S v
 | .dead, h => by simp [V.closed] at h
 | .ptr _ _, h => by simp [V.closed] at h
 | .sl _ _ _ _, h => by simp [V.closed] at h
 | .sle _ _ _ _, h => by simp [V.closed] at h
 | .mp _, h => by simp [V.closed] at h
 | .bool _, _ => rfl
 | .int _ _, _ => rfl
 | .str _, _ => rfl
 | .nilp, _ => rfl
 | .nils, _ => rfl
 | .nilm, _ => rfl
 | .nilf, _ => rfl
 | .nili, _ => rfl
 | .fn f a c, h => by
  simp only [V.closed, Bool.and_eq_true] at h
  simp only [conc, concs_closed R S a h.1, concs_closed R S c h.2]
 | .ifc t v, h => by
  simp only [V.closed] at h
  simp only [conc, conc_closed R S v h]
 | .agg l, h => by
  simp only [V.closed] at h
  simp only [conc, concs_closed R S l h]
 | .tup l, h => by
  simp only [V.closed] at h
  simp only [conc, concs_closed R S l h]
theorem concs_closed (R S : Ren) : ∀ l : List V, closeds l = true → concs R l = concs S l
 | [], _ => rfl
 | v :: l, h => by
  simp only [closeds, Bool.and_eq_true] at h
  simp only [concs, conc_closed R S v h.1, concs_closed R S l h.2]
end
mutual
def V.clean (n0 : Nat) : V → Bool
 | .dead => false
 | .ptr b _ => Nat.ble n0 b
 | .sl b _ _ _ => Nat.ble n0 b
 | .sle b _ _ _ => Nat.ble n0 b
 | .mp b => Nat.ble n0 b
 | .fn _ a c => cleans n0 a && cleans n0 c
 | .ifc _ v => V.clean n0 v
 | .agg l => cleans n0 l
 | .tup l => cleans n0 l
 | _ => true
def cleans (n0 : Nat) : List V → Bool
 | [] => true
 | v :: l => V.clean n0 v && cleans n0 l
end
mutual
def V.sh (n0 d : Nat) : V → V
 | .ptr b o => .ptr (Nat.add (Nat.sub b n0) d) o
 | .sl b o n c => .sl (Nat.add (Nat.sub b n0) d) o n c
 | .sle b o k e => .sle (Nat.add (Nat.sub b n0) d) o k e
 | .mp b => .mp (Nat.add (Nat.sub b n0) d)
 | .fn f a c => .fn f (shs n0 d a) (shs n0 d c)
 | .ifc t v => .ifc t (V.sh n0 d v)
 | .agg l => .agg (shs n0 d l)
 | .tup l => .tup (shs n0 d l)
 | v => v
def shs (n0 d : Nat) : List V → List V
 | [] => []
 | v :: l => V.sh n0 d v :: shs n0 d l
end
section
variable {R S : Ren} {n0 d : Nat}
mutual
theorem conc_sh (h : ∀ b, n0 ≤ b → S (Nat.add (Nat.sub b n0) d) = R b) : ∀ v : V, V.clean n0 v = true → conc S (V.sh n0 d v) = conc R v
 | .dead, hc => by simp [V.clean] at hc
 | .ptr b o, hc => by
  simp only [V.clean, Nat.ble_eq] at hc
  simp only [V.sh, conc, h b hc]
 | .sl b o n (.ex c), hc => by
  simp only [V.clean, Nat.ble_eq] at hc
  simp only [V.sh, conc, h b hc]
 | .sl b o n (.op c), hc => by
  simp only [V.clean, Nat.ble_eq] at hc
  simp only [V.sh, conc, h b hc]
 | .sle b o k e, hc => by
  simp only [V.clean, Nat.ble_eq] at hc
  simp only [V.sh, conc, h b hc]
 | .mp b, hc => by
  simp only [V.clean, Nat.ble_eq] at hc
  simp only [V.sh, conc, h b hc]
 | .bool _, _ => rfl
 | .int _ _, _ => rfl
 | .str _, _ => rfl
 | .nilp, _ => rfl
 | .nils, _ => rfl
 | .nilm, _ => rfl
 | .nilf, _ => rfl
 | .nili, _ => rfl
 | .fn f a c, hc => by
  simp only [V.clean, Bool.and_eq_true] at hc
  simp only [V.sh, conc, concs_sh h a hc.1, concs_sh h c hc.2]
 | .ifc t v, hc => by
  simp only [V.clean] at hc
  simp only [V.sh, conc, conc_sh h v hc]
 | .agg l, hc => by
  simp only [V.clean] at hc
  simp only [V.sh, conc, concs_sh h l hc]
 | .tup l, hc => by
  simp only [V.clean] at hc
  simp only [V.sh, conc, concs_sh h l hc]
theorem concs_sh (h : ∀ b, n0 ≤ b → S (Nat.add (Nat.sub b n0) d) = R b) : ∀ l : List V, cleans n0 l = true → concs S (shs n0 d l) = concs R l
 | [], _ => rfl
 | v :: l, hc => by
  simp only [cleans, Bool.and_eq_true] at hc
  simp only [shs, concs, conc_sh h v hc.1, concs_sh h l hc.2]
end
theorem shs_get : ∀ (l : List V) (k : Nat), (shs n0 d l)[k]? = (l[k]?).map (V.sh n0 d)
 | [], k => by simp [shs]
 | v :: l, 0 => by simp [shs]
 | v :: l, k + 1 => by simpa [shs] using shs_get l k
theorem shs_length : ∀ (l : List V), (shs n0 d l).length = l.length
 | [] => rfl
 | v :: l => by simp [shs, shs_length l]
theorem cleans_get : ∀ {l : List V} {k : Nat} {v : V}, cleans n0 l = true → l[k]? = some v → V.clean n0 v = true
 | [], k, v, _, h => by simp at h
 | u :: l, 0, v, hc, h => by
  simp only [cleans, Bool.and_eq_true] at hc
  simp at h; subst h; exact hc.1
 | u :: l, k + 1, v, hc, h => by
  simp only [cleans, Bool.and_eq_true] at hc
  exact cleans_get hc.2 (by simpa using h)
def shp (n0 d : Nat) : List (V × V) → List (V × V)
 | [] => []
 | p :: l => (V.sh n0 d p.1, V.sh n0 d p.2) :: shp n0 d l
def cleanp (n0 : Nat) : List (V × V) → Bool
 | [] => true
 | p :: l => V.clean n0 p.1 && V.clean n0 p.2 && cleanp n0 l
def Blk.sh (n0 d : Nat) : Blk → Blk
 | .cells l => .cells (shs n0 d l)
 | .map l => .map (shp n0 d l)
 | .siter s p => .siter s p
 | .unit t => .unit t
def Blk.clean (n0 : Nat) : Blk → Bool
 | .cells l => cleans n0 l
 | .map l => cleanp n0 l
 | .siter _ _ => true
 | .unit _ => true
theorem MapHolds.sh (h : ∀ b, n0 ≤ b → S (Nat.add (Nat.sub b n0) d) = R b) : ∀ {l : List (V × V)} {es : List MapEntry}, cleanp n0 l = true → MapHolds R l es → MapHolds S (shp n0 d l) es
 | [], [], _, _ => trivial
 | (a, b) :: l, e :: es, hc, ⟨h1, h2, h3⟩ => by
  simp only [cleanp, Bool.and_eq_true] at hc
  exact ⟨(conc_sh h a hc.1.1).trans h1, (conc_sh h b hc.1.2).trans h2, MapHolds.sh h hc.2 h3⟩
 | [], _ :: _, _, h => h.elim
 | _ :: _, [], _, h => h.elim
theorem OwnOk.sh (h : ∀ b, n0 ≤ b → S (Nat.add (Nat.sub b n0) d) = R b) {i : BI} {b : Blk} {w : World} (hc : b.clean n0 = true) (hb : OwnOk R i b w) : OwnOk S i (b.sh n0 d) w := by
 cases b with
 | cells l =>
  obtain ⟨arr, el, lo, hi, h1, h2, h3, h4, h5⟩ := hb
  refine ⟨arr, el, lo, hi, h1, fun k v hk => ?_, h3, by rw [shs_length]; exact h4, h5⟩
  rw [shs_get, Option.map_eq_some_iff] at hk
  obtain ⟨u, hu, rfl⟩ := hk
  obtain ⟨a, ha, h6, h7⟩ := h2 k u hu
  exact ⟨a, (conc_sh h u (cleans_get hc hu)).trans ha, h6, h7⟩
 | map l =>
  obtain ⟨es, clock, h1, h2⟩ := hb
  exact ⟨es, clock, h1, h2.sh h hc⟩
 | siter s p => exact hb
 | unit t => exact hb
def shBl (n0 d : Nat) : List (Nat × Blk) → List (Nat × Blk)
 | [] => []
 | p :: l => (Nat.add (Nat.sub p.1 n0) d, p.2.sh n0 d) :: shBl n0 d l
def cleanBl (n0 : Nat) : List (Nat × Blk) → Bool
 | [] => true
 | p :: l => Nat.ble n0 p.1 && p.2.clean n0 && cleanBl n0 l
theorem look_shBl : ∀ {l : List (Nat × Blk)} {id : Nat} {b : Blk}, cleanBl n0 l = true → look (shBl n0 d l) id = some b → ∃ k c, n0 ≤ k ∧ id = Nat.add (Nat.sub k n0) d ∧ look l k = some c ∧ c.clean n0 = true ∧ b = c.sh n0 d
 | [], id, b, _, h => by cases h
 | (k, c) :: l, id, b, hc, h => by
  simp only [cleanBl, Bool.and_eq_true, Nat.ble_eq] at hc
  simp only [shBl, look] at h
  split at h
  ·rename_i he
   have he := Nat.eq_of_beq_eq_true he
   simp only [Option.some.injEq] at h
   exact ⟨k, c, hc.1.1, he.symm, by simp [look], hc.1.2, h.symm⟩
  ·rename_i he
   obtain ⟨k', c', h1, h2, h3, h4, h5⟩ := look_shBl hc.2 h
   refine ⟨k', c', h1, h2, ?_, h4, h5⟩
   simp only [look]
   rw [if_neg, h3]
   intro hk
   have hk := Nat.eq_of_beq_eq_true hk
   subst hk
   exact he (by rw [h2]; exact Nat.beq_refl _)
theorem look_app {α : Type} : ∀ (l m : List (Nat × α)) (id : Nat), look (l ++ m) id = match look l id with | some b => some b | none => look m id
 | [], m, id => rfl
 | (k, b) :: l, m, id => by
  simp only [List.cons_append, look]
  cases Nat.beq k id with
  | true => rfl
  | false => simpa using look_app l m id
end
def prsEq : List (V × V) → List (V × V) → Bool
 | [], [] => true
 | p :: l, q :: m => V.beq p.1 q.1 && V.beq p.2 q.2 && prsEq l m
 | _, _ => false
theorem prsEq_ok : ∀ {l m : List (V × V)}, prsEq l m = true → l = m
 | [], [], _ => rfl
 | (a, b) :: l, (c, d) :: m, h => by
  simp only [prsEq, Bool.and_eq_true] at h
  rw [beq_ok _ _ h.1.1, beq_ok _ _ h.1.2, prsEq_ok h.2]
 | [], _ :: _, h => by cases h
 | _ :: _, [], h => by cases h
def blkEq : Blk → Blk → Bool
 | .cells a, .cells b => beqs a b
 | .map a, .map b => prsEq a b
 | _, _ => false
theorem blkEq_ok {a b : Blk} (h : blkEq a b = true) : a = b := by
 cases a <;> cases b <;> simp only [blkEq, Bool.false_eq_true] at h
 ·rw [beqs_ok _ _ h]
 ·rw [prsEq_ok h]
def inBl : List (Nat × Blk) → List (Nat × Blk) → Bool
 | [], _ => true
 | p :: l, m => (match lookF m p.1 with
  | some b => blkEq b p.2
  | none => false) && inBl l m
theorem inBl_ok : ∀ {l m : List (Nat × Blk)}, inBl l m = true → ∀ p ∈ l, look m p.1 = some p.2
 | [], _, _, p, hp => by cases hp
 | q :: l, m, h, p, hp => by
  simp only [inBl, Bool.and_eq_true, lookF_eq] at h
  rcases List.mem_cons.1 hp with rfl | hp
  ·have h1 := h.1
   cases hb : look m p.1 with
   | none => rw [hb] at h1; cases h1
   | some b => rw [hb] at h1; rw [blkEq_ok h1]
  ·exact inBl_ok h.2 p hp
structure Con where
 args : List V
 v : V
 bl : List (Nat × Blk)
 m : Nat
def Con.right (F : List V → H → Ans) (e : Con) : Bool := match F e.args ⟨100, []⟩ with
 | some (v, σ) => V.beq v e.v && (inBl e.bl σ.bl && (Nat.ble σ.next (100 + e.m) && (cleanBl 100 e.bl && (V.clean 100 e.v && closeds e.args))))
 | none => false
def Con.ans (e : Con) (σ : H) : V × H := (V.sh 100 σ.next e.v, ⟨Nat.add σ.next e.m, shBl 100 σ.next e.bl ++ σ.bl⟩)
def findC (l : List Con) (args : List V) (σ : H) (a : Ans) : Ans :=
 List.rec a (fun e _ r => Bool.rec r (some (e.ans σ)) (beqs args e.args)) l
theorem con_ok {P : Program} {G : Nat → Bool} {f : FuncId} {F : List V → H → Ans} (hS : SoundFn P [] G f F) {ng : Nat} (hG : ∀ g, G g = true → g < ng) (hn : ng ≤ 100) {e : Con} (h : e.right F = true)
  {C : Cx} (hE : C.E = []) (hGC : C.G = G) {R : Ren} {σ : H} {w : World} {xs : List Value} (hrel : Rel C R σ w) (hxs : concs R e.args = some xs) :
  callOk P f = true ∧ Calls P f xs.toArray w fun en w' => ∃ R' x, Ext σ.next R R' ∧ σ.next ≤ (e.ans σ).2.next ∧ Rel C R' (e.ans σ).2 w' ∧ conc R' (e.ans σ).1 = some x ∧ en = .returned x := by
 unfold Con.right at h
 cases hr : F e.args ⟨100, []⟩ with
 | none => rw [hr] at h; cases h
 | some p =>
  obtain ⟨v, σ1⟩ := p
  rw [hr] at h
  simp only [Bool.and_eq_true, Nat.ble_eq] at h
  obtain ⟨hv, hin, hnx, hcb, hcv, hca⟩ := h
  have hv := beq_ok _ _ hv
  subst hv
  have hin := inBl_ok hin
  obtain ⟨hok, hc⟩ := hS ⟨fun blk => w.heap.size ≤ blk, w, [], G⟩ rfl rfl (globR ng) ⟨100, []⟩ w e.args xs _ σ1 hr (start_rel hG hn w) ((concs_closed _ _ _ hca).trans hxs)
  refine ⟨hok, hc.mono ?_⟩
  rintro en w' ⟨R1, x, _, _, h3, h4, rfl⟩
  have hrelg : Rel C R σ w' := hrel.grow (fun k hk => h3.fr k (Nat.not_le.2 hk)) h3.size h3.os h3.tape h3.output
  let R' : Ren := fun id => if id < σ.next then R id else R1 (id - σ.next + 100)
  have hR' : ∀ b, 100 ≤ b → R' (Nat.add (Nat.sub b 100) σ.next) = R1 b := fun b hb => by
   show (if b - 100 + σ.next < σ.next then _ else R1 (b - 100 + σ.next - σ.next + 100)) = _
   rw [if_neg (by omega)]
   congr 1; omega
  have hext : Ext σ.next R R' := fun id hid => by show (if id < σ.next then _ else _) = _; rw [if_pos hid]
  have hle : Le R R' := hext.le hrel.fresh
  have hlook : ∀ {k c}, look e.bl k = some c → look σ1.bl k = some c := fun hk => hin _ (look_mem hk)
  have hnew : ∀ {id b}, look (shBl 100 σ.next e.bl) id = some b → ∃ k c i, 100 ≤ k ∧ id = k - 100 + σ.next ∧ look σ1.bl k = some c ∧ R1 k = some i ∧ R' id = some i ∧ w.heap.size ≤ i.blk ∧ OwnOk R' i b w' := fun hb => by
   obtain ⟨k, c, h1, h2, h5, h6, h7⟩ := look_shBl hcb hb
   obtain ⟨i, hi, hO, hok⟩ := h3.own k c (hlook h5)
   refine ⟨k, c, i, h1, h2, hlook h5, hi, ?_, hO, ?_⟩
   ·rw [h2]; exact (hR' k h1).trans hi
   ·rw [h7]; exact OwnOk.sh hR' h6 hok
  have hsplit : ∀ {id b}, look (shBl 100 σ.next e.bl ++ σ.bl) id = some b → look (shBl 100 σ.next e.bl) id = some b ∨ (id < σ.next ∧ look σ.bl id = some b) := fun {id b} hb => by
   rw [look_app] at hb
   cases hs : look (shBl 100 σ.next e.bl) id with
   | some c => rw [hs] at hb; exact .inl hb
   | none => rw [hs] at hb; exact .inr ⟨hrel.next_of_own hb, hb⟩
  refine ⟨R', x, hext, Nat.le_add_right _ _, ⟨?_, ?_, ?_, ?_, ?_, hrelg.fr, hrelg.size, hrelg.new, hrelg.os, hrelg.tape, hrelg.output⟩, (conc_sh hR' _ hcv).trans h4, rfl⟩
  ·intro id hid
   have hid' : σ.next + e.m ≤ id := hid
   show (if id < σ.next then _ else R1 (id - σ.next + 100)) = none
   rw [if_neg (by omega)]
   exact h3.fresh _ (by omega)
  ·intro id b hb
   rcases hsplit hb with hb | ⟨hl, hb⟩
   ·obtain ⟨k, c, i, _, _, _, _, hi, hbl, hok⟩ := hnew hb
    exact ⟨i, hi, hrel.new _ (Nat.le_trans hrel.size hbl), hok⟩
   ·obtain ⟨i, hi, hO, hok⟩ := hrelg.own id b hb
    exact ⟨i, hle _ _ hi, hO, hok.mono hle rfl⟩
  ·intro id id' b b' i i' hb hb' hi hi' hbl
   have old : ∀ {id b i}, look σ.bl id = some b → R' id = some i → R id = some i ∧ i.blk < w.heap.size := fun {id b i} hb hi => by
    obtain ⟨j, hj, _, hok⟩ := hrel.own id b hb
    have := hle _ _ hj
    rw [hi] at this; cases this
    exact ⟨hj, hok.lt⟩
   rcases hsplit hb with hb | ⟨hl, hb⟩ <;> rcases hsplit hb' with hb' | ⟨hl', hb'⟩
   ·obtain ⟨k, c, j, h1, h2, h5, h6, h7, _⟩ := hnew hb
    obtain ⟨k', c', j', h1', h2', h5', h6', h7', _⟩ := hnew hb'
    rw [h7] at hi; cases hi
    rw [h7'] at hi'; cases hi'
    have := h3.inj k k' c c' _ _ h5 h5' h6 h6' hbl
    omega
   ·obtain ⟨k, c, j, h1, h2, h5, h6, h7, h8, _⟩ := hnew hb
    rw [h7] at hi; cases hi
    have := (old hb' hi').2
    omega
   ·obtain ⟨k, c, j, h1, h2, h5, h6, h7, h8, _⟩ := hnew hb'
    rw [h7] at hi'; cases hi'
    have := (old hb hi).2
    omega
   ·exact hrel.inj id id' b b' i i' hb hb' (old hb hi).1 (old hb' hi').1 hbl
  ·intro id b hb
   obtain ⟨i, hi, hO, hok⟩ := hrelg.ext id b hb
   exact ⟨i, hle _ _ hi, hO, hok.mono hle rfl⟩
  ·intro g hg
   obtain ⟨i, hi, hb⟩ := hrelg.glob g hg
   exact ⟨i, hle _ _ hi, hb⟩
def Good (P : Program) (G : Nat → Bool) (f : Nat) (l : List Con) : Prop := ∀ e ∈ l, ∃ F, SoundFn P [] G f F ∧ e.right F = true
theorem findC_ok {P : Program} {G : Nat → Bool} {f : FuncId} {F : List V → H → Ans} (hF : SoundFn P [] G f F) {ng : Nat} (hG : ∀ g, G g = true → g < ng) (hn : ng ≤ 100) {l : List Con} (h : Good P G f l) :
  SoundFn P [] G f (fun args σ => findC l args σ (F args σ)) := by
 intro C hE hGC R σ w args xs v σ' hr hrel hxs
 induction l with
 | nil => exact hF C hE hGC R σ w args xs v σ' hr hrel hxs
 | cons e l ih =>
  have hr' : (match beqs args e.args with | true => some (e.ans σ) | false => findC l args σ (F args σ)) = some (v, σ') := by
   cases hb : beqs args e.args <;> (have := hr; simp only [findC, hb] at this ⊢; exact this)
  cases hb : beqs args e.args with
  | false =>
   rw [hb] at hr'
   exact ih (fun e' he' => h e' (List.mem_cons_of_mem _ he')) hr'
  | true =>
   rw [hb] at hr'
   simp only [Option.some.injEq] at hr'
   have := beqs_ok _ _ hb
   subst this
   obtain ⟨F', hF', hright⟩ := h e List.mem_cons_self
   have := con_ok hF' hG hn hright hE hGC hrel hxs
   rw [hr'] at this
   exact this
theorem cell_slice {P : Program} {w : World} {r : Reach} {base : Nat} {t e : TypeId} {v : Value} (ht : P.underlying t = some (.slice e)) (h : Cell.okWide P w r base t v) :
  v = .slice none 0 0 ∨ ∃ blk off len cap, v = .slice (some ⟨blk, off, none⟩) len cap := by
 unfold Cell.okWide at h
 rw [ht] at h
 unfold Cell.ok at h
 rw [ht] at h
 cases v <;> simp at h
 rename_i a len cap
 cases a with
 | none =>
  cases len <;> cases cap <;> first | exact .inl rfl | simp at h
 | some a =>
  obtain ⟨b, o, s⟩ := a
  simp only at h
  obtain ⟨_, _, _, hs, _⟩ := h
  simp only at hs
  subst hs
  exact .inr ⟨_, _, _, _, rfl⟩
end
end Go.Og
