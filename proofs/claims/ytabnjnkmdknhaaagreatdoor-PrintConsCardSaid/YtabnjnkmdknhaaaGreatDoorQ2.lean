/- What the last text leans on, part 3 of 5: merged out of smaller texts. No condition. -/
import GoSem.ClaimChange
import Derived.Below
import Derived.KernelRfl
import Derived.Test.YtabnjnkmdknhaaaGreatDoorQ1
set_option linter.unusedSimpArgs false
namespace Go.Og
variable {P : Program} {D : Den} {C : Cx}

theorem noBad_mem : ∀ {l : List AOper}, noBad l = true → ∀ o ∈ l, o.op ≠ .bad
  | [], _, o, ho => by simp at ho
  | a :: l, h, o, ho => by
    simp only [noBad, Bool.and_eq_true] at h
    rcases List.mem_cons.1 ho with rfl | ho
    · intro hb; rw [hb] at h; cases h.1
    · exact noBad_mem h.2 o ho

def Tok (R : Ren) (B : Bs) (x : Option Value) : Oc → Prop
  | .val v => ∃ y, x = some y ∧ conc R v = some y
  | .mark m off => ∃ i, B m = some i ∧ x = some (.pointer (some ⟨i.blk, i.shift + off, none⟩))
  | .pal d _ => ∃ i, B d = some i ∧ x = some (.pointer (some ⟨i.blk, i.shift + 0, none⟩))
theorem Tok.mono {R R' : Ren} {B B' : Bs} {x : Option Value} {c : Oc} (h : Tok R B x c) (hR : Le R R') (hB : ∀ m i, B m = some i → B' m = some i) : Tok R' B' x c := by
  cases c with
  | val v => obtain ⟨y, h1, h2⟩ := h; exact ⟨y, h1, conc_mono hR v y h2⟩
  | mark m off => obtain ⟨i, h1, h2⟩ := h; exact ⟨i, hB _ _ h1, h2⟩
  | pal d z => obtain ⟨i, h1, h2⟩ := h; exact ⟨i, hB _ _ h1, h2⟩

set_option maxHeartbeats 2000000 in
theorem draw_ok (hD : ∀ f, SoundFn P C.E C.G f (D f)) (hmix : P.follows .mixedOrders = true) {nR : Nat} {R0 : Ren} {nt : Nat} (rid : Nat) {ops : Array Oper} {l : XL} {ancs : List Nat}
    (hflat : l.flat none = ops.toList.map (compOper P C.G nt ops)) (hpl : List.zipWith DP.mk ancs l.lks = planOf ops) (hplan : planOk ops (ops.toList.map (compOper P C.G nt ops)) (planOf ops) = true)
    (hok : l.okG none none = true) (hdo : drawOk (l.flat none) ancs = true) (hanl : ancs.length = l.lks.length) (hmk : l.makes = false) (hnb : noBad (l.flat none) = true)
    {s : St} {a0 : Act} {w00 : World} {κ : Env → Qs → Rg → H → Ans} {res : V × H} (hpo : palsOk s.q l.pals = true)
    (h : denL C.E D true true 0 l 0 s.e s.q s.r s.σ κ = some res) (hI : InvS C nR R0 nt s a0 w00) (Q : Exit → Act → World → Prop)
    (hQ : ∀ s' a' w', κ s'.e s'.q s'.r s'.σ = some res → InvS C nR R0 nt s' a' w' → Q .normal a' w') : (Code.region rid ops true).wp P Q a0 w00 := by
  obtain ⟨s', hrun, hκ, _⟩ := denL_run l none none none true 0 s κ res h hok (.inl ⟨rfl, rfl⟩) (fun _ => hmk)
  obtain ⟨sts, oc, ex, hst0, hs', hat⟩ := run_chain hrun
  rw [zip_len] at hs'
  obtain ⟨hfl1, hfl2⟩ := flat_len l none
  have hsz : l.size = ops.size := by rw [← hfl1, hflat]; simp
  generalize hnn : ops.size = n at *
  rw [hsz] at hs'
  have F := planOk_ok (l := ops.toList.map (compOper P C.G nt ops)) (by simp) hplan
  have hgood : ∀ (i : Nat) (o : Oper), ops[i]? = some o → ∃ g, compOper P C.G nt ops o = ⟨o.dst, compOp P C.G o.op, g⟩ ∧ compG ops o.guard = some g ∧ dstOk nt o.dst = true := by
    intro i o ho
    have hmem : compOper P C.G nt ops o ∈ l.flat none := by
      rw [hflat, List.mem_map]
      exact ⟨o, by simpa using Array.mem_of_getElem? ho, rfl⟩
    have hb := noBad_mem hnb _ hmem
    unfold compOper at hb ⊢
    split at hb
    · rename_i g h1 h2; exact ⟨g, rfl, h1, h2⟩
    · exact (hb rfl).elim
  have hlt : ∀ {i : Nat} {o : Oper}, ops[i]? = some o → i < n := fun {i o} ho => by
    rcases Nat.lt_or_ge i ops.size with h | h
    · omega
    · rw [Array.getElem?_eq_none h] at ho; cases ho
  -- what each operation is
  have some3 : ∀ (i : Nat), i < n → ∃ (o : Oper) (p : DP), ops[i]? = some o ∧ (planOf ops)[i]? = some p ∧ ancs.getD i 0 = p.anc ∧ (l.flat none)[i]? = some (compOper P C.G nt ops o) ∧ At C.E D (sts i) (compOper P C.G nt ops o) p.looks (oc i) (ex i) (sts (i + 1)) := by
    intro i hi
    have h1 : i < ops.size := by omega
    have ho : ops[i]? = some ops[i] := Array.getElem?_eq_getElem h1
    have hf : (l.flat none)[i]? = some (compOper P C.G nt ops ops[i]) := by
      rw [hflat, List.getElem?_map, Array.getElem?_toList, ho]; rfl
    have hk : l.lks[i]? = some (l.lks[i]'(by omega)) := List.getElem?_eq_getElem _
    have ha : ancs[i]? = some (ancs[i]'(by omega)) := List.getElem?_eq_getElem _
    refine ⟨ops[i], ⟨ancs[i]'(by omega), l.lks[i]'(by omega)⟩, ho, ?_, ?_, hf, ?_⟩
    · rw [← hpl, List.getElem?_zipWith, ha, hk]
    · rw [List.getD_eq_getElem?_getD, ha]; rfl
    · exact hat i _ _ (by rw [List.getElem?_zip_eq_some]; exact ⟨hf, hk⟩)
  have hdlt : ∀ (i : Nat) (o : Oper) (t : Nat), ops[i]? = some o → o.dst = some t → t < nt := by
    intro i o t ho ht
    obtain ⟨g, _, _, hd⟩ := hgood i o ho
    rw [ht] at hd; simpa [dstOk] using hd
  have hdu : ∀ (i k : Nat) (o o' : Oper) (t : Nat), i ≠ k → ops[i]? = some o → ops[k]? = some o' → o.dst = some t → o'.dst ≠ some t := by
    intro i k o o' t hne ho ho' ht
    obtain ⟨o1, p1, h1, h2, _⟩ := some3 i (hlt ho)
    obtain ⟨o2, p2, h3, h4, _⟩ := some3 k (hlt ho')
    exact (F.dsts i k o o' p1 p2 hne ho ho' h2 h4 t ht).1
  have hpald : ∀ (k m : Nat) (z : List V), k < n → oc k = .pal m z → ex k = true ∧ ∃ (o : Oper) (el : TypeId), ops[k]? = some o ∧ o.dst = some m ∧ compOp P C.G o.op = .alloc el z := by
    intro k m z hk hc
    obtain ⟨o, p, ho, _, _, _, hA⟩ := some3 k hk
    obtain ⟨g, hg, _, _⟩ := hgood k o ho
    rw [hg] at hA
    rw [hc] at hA
    generalize ex k = x at hA ⊢
    cases hA with
    | pal _ d el z hd ho' hw h => exact ⟨rfl, o, el, ho, hd, ho'⟩
  have hpalu : ∀ (k k' m : Nat) (z z' : List V), k < n → k' < n → oc k = .pal m z → oc k' = .pal m z' → k = k' := by
    intro k k' m z z' hk hk' h1 h2
    rcases Nat.decEq k k' with hne | he
    · exfalso
      obtain ⟨_, o, _, ho, hd, _⟩ := hpald k m z hk h1
      obtain ⟨_, o', _, ho', hd', _⟩ := hpald k' m z' hk' h2
      exact hdu k k' o o' m hne ho ho' hd hd'
    · exact he
  let W : Nat → Prop := fun i => ex i = true ∧ ∃ o : Oper, ops[i]? = some o ∧ (compOp P C.G o.op).cls = .k
  -- memory, as long as nothing is written
  have seg : ∀ (p i : Nat), p ≤ i → i ≤ n → (∀ k : Nat, p ≤ k → k < i → ¬ W k) → (sts i).σ = (sts p).σ ∧ (∀ m, (∀ k z, p ≤ k → k < i → oc k ≠ .pal m z) → look (sts i).r m = look (sts p).r m) ∧
      (∀ k m z, p ≤ k → k < i → oc k = .pal m z → look (sts i).r m = some z) := by
    intro p i
    induction i with
    | zero =>
      intro hpi _ _
      have : p = 0 := by omega
      subst this
      exact ⟨rfl, fun _ _ => rfl, fun k m z h1 h2 => by omega⟩
    | succ i ih =>
      intro hpi' hin hW
      by_cases hpe : p = i + 1
      · subst hpe; exact ⟨rfl, fun _ _ => rfl, fun k m z h1 h2 => by omega⟩
      have hpi : p ≤ i := by omega
      have ih := ih hpi
      obtain ⟨h1, h2, h3⟩ := ih (by omega) (fun k hk1 hk2 => hW k hk1 (by omega))
      obtain ⟨o, p', ho, _, _, _, hA⟩ := some3 i (by omega)
      obtain ⟨g, hg, _, _⟩ := hgood i o ho
      rw [hg] at hA
      have same : (sts (i + 1)).σ = (sts i).σ → (sts (i + 1)).r = (sts i).r → (∀ m z, oc i ≠ .pal m z) → (sts (i + 1)).σ = (sts p).σ ∧ (∀ m, (∀ k z, p ≤ k → k < i + 1 → oc k ≠ .pal m z) → look (sts (i + 1)).r m = look (sts p).r m) ∧
          (∀ k m z, p ≤ k → k < i + 1 → oc k = .pal m z → look (sts (i + 1)).r m = some z) := by
        intro e1 e2 hnp
        refine ⟨e1.trans h1, fun m hm => by rw [e2]; exact h2 m (fun k z hk1 hk2 => hm k z hk1 (by omega)), fun k m z hk1 hk2 hkc => ?_⟩
        rw [e2]
        by_cases hki : k = i
        · subst hki; exact (hnp _ _ hkc).elim
        · exact h3 k m z hk1 (by omega) hkc
      have hWi := hW i hpi (by omega)
      generalize hoc : oc i = c at hA
      generalize hex : ex i = x at hA
      cases hA with
      | skip _ hw h => exact same h.2.2.2 h.2.2.1 (fun m z hh => by rw [hoc] at hh; cases hh)
      | val _ pw v r' σ' hw hs hl hna h =>
        obtain ⟨e1, e2⟩ := step_still hs (fun hk => hWi ⟨hex, o, ho, hk⟩) hna
        exact same (h.2.2.2.trans e2) (h.2.2.1.trans e1) (fun m z hh => by rw [hoc] at hh; cases hh)
      | mark _ pw id nx m off hw hs h => exact same h.2.2.2 h.2.2.1 (fun m z hh => by rw [hoc] at hh; cases hh)
      | pal _ d el z hd ho' hw h =>
        have hr : (sts (i + 1)).r = (d, z) :: without [d] (sts i).r := h.2.2.1
        have hne : ∀ m, m ≠ d → look (sts (i + 1)).r m = look (sts i).r m := fun m hm => by
          rw [hr]
          simp only [look, Nat.beq_eq]
          rw [if_neg (Ne.symm hm), look_without, if_neg (fun hh => hm ((memN_one d m).1 hh).symm)]
        refine ⟨h.2.2.2.trans h1, fun m hm => ?_, fun k m z' hk1 hk2 hkc => ?_⟩
        · have hmd : m ≠ d := fun he => hm i z hpi (by omega) (by rw [hoc, he])
          rw [hne m hmd]
          exact h2 m (fun k z hk1 hk2 => hm k z hk1 (by omega))
        · by_cases hki : k = i
          · subst hki
            rw [hoc] at hkc; cases hkc
            rw [hr]; simp [look]
          · have hmd : m ≠ d := fun he => hki (hpalu k i d z' z (by omega) (by omega) (by rw [hkc, he]) hoc)
            rw [hne m hmd]
            exact h3 k m z' hk1 (by omega) hkc
  -- the blocks of the call's own to which there are addresses
  have roots : ∀ (i : Nat), i ≤ n → ∀ (t m off : Nat), look (sts i).q t = some (m, off) → ∀ k z, k < n → oc k = .pal m z → k < i := by
    intro i
    induction i with
    | zero =>
      intro _ t m off hl k z hk hc
      exfalso
      obtain ⟨_, o, el, ho, hd, hcc⟩ := hpald k m z hk hc
      obtain ⟨g, hg, _, _⟩ := hgood k o ho
      have hmem : compOper P C.G nt ops o ∈ l.flat none := by
        rw [hflat, List.mem_map]
        exact ⟨o, by simpa using Array.mem_of_getElem? ho, rfl⟩
      have := pals_mem l none hmk _ hmem m (by rw [hg]; simp only [hcc]; rfl) (by rw [hg]; exact hd)
      exact palsOk_mem hpo m this t off (hst0.2.1 t _ hl)
    | succ i ih =>
      intro hin t m off hl k z hk hc
      have ih := ih (by omega)
      obtain ⟨o, p', ho, _, _, _, hA⟩ := some3 i (by omega)
      generalize hoc : oc i = c at hA
      generalize hex : ex i = x at hA
      have old : ∀ t, look (sts i).q t = some (m, off) → k < i + 1 := fun t ht => Nat.lt_succ_of_lt (ih t m off ht k z hk hc)
      cases hA with
      | skip _ hw h =>
        have := h.2.1 t _ hl
        rw [look_without1] at this
        split at this
        · cases this
        · exact old t this
      | val _ pw v r' σ' hw hs hl' hna h =>
        have := h.2.1 t _ hl
        rw [look_without1] at this
        split at this
        · cases this
        · exact old t this
      | mark _ pw id nx m' off' hw hs h =>
        have := h.2.1 t _ hl
        rw [look_putQ] at this
        split at this
        · simp only [Option.some.injEq, Prod.mk.injEq] at this
          obtain ⟨rfl, rfl⟩ := this
          obtain ⟨x, off2, hx⟩ := mark_root hs
          cases x with
          | con v => cases hx
          | tmp u =>
            have hx : look (restrQ p'.looks (sts i).q) u = some (m', off2) := hx
            exact Nat.lt_succ_of_lt (ih u m' off2 (look_restrQ _ _ _ _ hx).1 k z hk hc)
        · rw [look_without1] at this
          split at this
          · cases this
          · exact old t this
      | pal _ d el z' hd ho' hw h =>
        have := h.2.1 t _ hl
        simp only [look, Nat.beq_eq] at this
        split at this
        · simp only [Option.some.injEq, Prod.mk.injEq] at this
          obtain ⟨rfl, rfl⟩ := this
          have := hpalu k i d z z' hk (by omega) hc hoc
          omega
        · have h2 := (look_unmark _ _ _ _ this).2
          rw [look_without] at h2
          split at h2
          · cases h2
          · exact old t h2
  -- where a temporary comes from
  have srcE : ∀ (i : Nat), i ≤ n → ∀ (t : Nat) (v : V), look (sts i).e t = some v → (∃ (k : Nat) (o' : Oper), k < i ∧ ops[k]? = some o' ∧ o'.dst = some t ∧ oc k = .val v) ∨ (look s.e t = some v ∧ ∀ (k : Nat) (o' : Oper), k < i → ops[k]? = some o' → o'.dst ≠ some t) := by
    intro i
    induction i with
    | zero => intro _ t v hl; exact .inr ⟨hst0.1 t v hl, fun k o' hk => by omega⟩
    | succ i ih =>
      intro hin t v hl
      have ih := ih (by omega)
      obtain ⟨o, p', ho, _, _, _, hA⟩ := some3 i (by omega)
      obtain ⟨g, hg, _, _⟩ := hgood i o ho
      rw [hg] at hA
      generalize hoc : oc i = c at hA
      generalize hex : ex i = x at hA
      have old : o.dst ≠ some t → look (sts i).e t = some v → (∃ (k : Nat) (o' : Oper), k < i + 1 ∧ ops[k]? = some o' ∧ o'.dst = some t ∧ oc k = .val v) ∨ (look s.e t = some v ∧ ∀ (k : Nat) (o' : Oper), k < i + 1 → ops[k]? = some o' → o'.dst ≠ some t) := by
        intro hne ht
        rcases ih t v ht with ⟨k, o', h1, h2, h3, h4⟩ | ⟨h1, h2⟩
        · exact .inl ⟨k, o', by omega, h2, h3, h4⟩
        · refine .inr ⟨h1, fun k o' hk ho' => ?_⟩
          by_cases hki : k = i
          · subst hki; rw [ho] at ho'; cases ho'; exact hne
          · exact h2 k o' (by omega) ho'
      cases hA with
      | skip _ hw h =>
        have := h.1 t _ hl
        rw [look_putE] at this
        split at this
        · rename_i hd; cases this; exact .inl ⟨i, o, by omega, ho, hd, hoc⟩
        · rename_i hd; exact old hd this
      | val _ pw v' r' σ' hw hs hl' hna h =>
        have := h.1 t _ hl
        rw [look_putE] at this
        split at this
        · rename_i hd; cases this; exact .inl ⟨i, o, by omega, ho, hd, hoc⟩
        · rename_i hd; exact old hd this
      | mark _ pw id nx m' off' hw hs h =>
        have := h.1 t _ hl
        rw [look_without1] at this
        split at this
        · cases this
        · rename_i hd; exact old hd this
      | pal _ d el z' hd ho' hw h =>
        have := h.1 t _ hl
        rw [look_without] at this
        split at this
        · cases this
        · rename_i hm
          exact old (fun hh => hm ((memN_one d t).2 (by rw [show o.dst = some d from hd] at hh; simpa using hh))) this
  have srcQ : ∀ (i : Nat), i ≤ n → ∀ (t m off : Nat), look (sts i).q t = some (m, off) → (∃ (k : Nat) (o' : Oper), k < i ∧ ops[k]? = some o' ∧ o'.dst = some t ∧ (oc k = .mark m off ∨ ∃ z, oc k = .pal m z ∧ off = 0)) ∨
      (look s.q t = some (m, off) ∧ ∀ (k : Nat) (o' : Oper), k < i → ops[k]? = some o' → o'.dst ≠ some t) := by
    intro i
    induction i with
    | zero => intro _ t m off hl; exact .inr ⟨hst0.2.1 t _ hl, fun k o' hk => by omega⟩
    | succ i ih =>
      intro hin t m off hl
      have ih := ih (by omega)
      obtain ⟨o, p', ho, _, _, _, hA⟩ := some3 i (by omega)
      obtain ⟨g, hg, _, _⟩ := hgood i o ho
      rw [hg] at hA
      generalize hoc : oc i = c at hA
      generalize hex : ex i = x at hA
      have old : o.dst ≠ some t → look (sts i).q t = some (m, off) → (∃ (k : Nat) (o' : Oper), k < i + 1 ∧ ops[k]? = some o' ∧ o'.dst = some t ∧ (oc k = .mark m off ∨ ∃ z, oc k = .pal m z ∧ off = 0)) ∨
          (look s.q t = some (m, off) ∧ ∀ (k : Nat) (o' : Oper), k < i + 1 → ops[k]? = some o' → o'.dst ≠ some t) := by
        intro hne ht
        rcases ih t m off ht with ⟨k, o', h1, h2, h3, h4⟩ | ⟨h1, h2⟩
        · exact .inl ⟨k, o', by omega, h2, h3, h4⟩
        · refine .inr ⟨h1, fun k o' hk ho' => ?_⟩
          by_cases hki : k = i
          · subst hki; rw [ho] at ho'; cases ho'; exact hne
          · exact h2 k o' (by omega) ho'
      cases hA with
      | skip _ hw h =>
        have := h.2.1 t _ hl
        rw [look_without1] at this
        split at this
        · cases this
        · rename_i hd; exact old hd this
      | val _ pw v' r' σ' hw hs hl' hna h =>
        have := h.2.1 t _ hl
        rw [look_without1] at this
        split at this
        · cases this
        · rename_i hd; exact old hd this
      | mark _ pw id nx m' off' hw hs h =>
        have := h.2.1 t _ hl
        rw [look_putQ] at this
        split at this
        · rename_i hd
          simp only [Option.some.injEq, Prod.mk.injEq] at this
          obtain ⟨rfl, rfl⟩ := this
          exact .inl ⟨i, o, by omega, ho, hd, .inl hoc⟩
        · rename_i hd
          rw [look_without1, if_neg hd] at this
          exact old hd this
      | pal _ d el z' hd ho' hw h =>
        have := h.2.1 t _ hl
        simp only [look, Nat.beq_eq] at this
        split at this
        · rename_i hdt
          simp only [Option.some.injEq, Prod.mk.injEq] at this
          obtain ⟨rfl, rfl⟩ := this
          exact .inl ⟨i, o, by omega, ho, by rw [← hdt]; exact hd, .inr ⟨z', hoc, rfl⟩⟩
        · rename_i hdt
          have h2 := (look_unmark _ _ _ _ this).2
          rw [look_without] at h2
          split at h2
          · cases h2
          · exact old (fun hh => hdt (by rw [show o.dst = some d from hd] at hh; simpa using hh)) h2
  obtain ⟨Rs, Bs0, hx0, hn0, hm0, he0, hq0, hnt0, hd0⟩ := hI
  let Bi : Bs := fun m => if memN l.pals m = true then none else Bs0 m
  have hpalm : ∀ (k m : Nat) (z : List V), k < n → oc k = .pal m z → memN l.pals m = true := by
    intro k m z hk hc
    obtain ⟨_, o, el, ho, hd, hcc⟩ := hpald k m z hk hc
    obtain ⟨g, hg, _, _⟩ := hgood k o ho
    have hmem : compOper P C.G nt ops o ∈ l.flat none := by
      rw [hflat, List.mem_map]
      exact ⟨o, by simpa using Array.mem_of_getElem? ho, rfl⟩
    exact pals_mem l none hmk _ hmem m (by rw [hg]; simp only [hcc]; rfl) (by rw [hg]; exact hd)
  -- the invariant
  let Inv : Array Bool → Act → World → Prop := fun listed a w =>
    listed.size = n ∧ (∀ (i : Nat) (o : Oper), listed.getD i false = true → ops[i]? = some o → ∀ ed ∈ o.after, Region.binds .any ed = true → listed.getD ed.on false = true) ∧ a.defers = [] ∧
    ∃ (R : Ren) (B : Bs) (p : Nat) (rL : Rg), p ≤ n ∧ (p = 0 ∨ ∃ j, p = j + 1 ∧ W j ∧ listed.getD j false = true) ∧ (∀ j, j < n → W j → (listed.getD j false = true ↔ j < p)) ∧ Ext nR R0 R ∧ nR ≤ (sts p).σ.next ∧
      MemI C R B rL (sts p).σ w ∧ (∀ k m z, p ≤ k → k < n → listed.getD k false = true → oc k = .pal m z → look rL m = some z) ∧
      (∀ m, (∀ k z, p ≤ k → k < n → listed.getD k false = true → oc k ≠ .pal m z) → look rL m = look (sts p).r m) ∧
      (∀ k m z, k < n → oc k = .pal m z → listed.getD k false = false → B m = none) ∧ nt ≤ a.tmps.size ∧
      (∀ (i : Nat) (o : Oper) (t : Nat), listed.getD i false = true → ops[i]? = some o → o.dst = some t → Tok R B a.tmps[t]? (oc i)) ∧
      (∀ t v, look s.e t = some v → (∀ (i : Nat) (o : Oper), listed.getD i false = true → ops[i]? = some o → o.dst ≠ some t) → ∃ x, a.tmps[t]? = some x ∧ conc R v = some x) ∧
      (∀ t m off, look s.q t = some (m, off) → (∀ (i : Nat) (o : Oper), listed.getD i false = true → ops[i]? = some o → o.dst ≠ some t) → ∃ i, B m = some i ∧ a.tmps[t]? = some (.pointer (some ⟨i.blk, i.shift + off, none⟩)))
  -- whatever comes before an operation that is ready, or listed, is listed
  have hanc : ∀ (listed : Array Bool), (∀ (i : Nat) (o : Oper), listed.getD i false = true → ops[i]? = some o → ∀ ed ∈ o.after, Region.binds .any ed = true → listed.getD ed.on false = true) →
      ∀ (i : Nat) (o : Oper) (p : DP), ops[i]? = some o → (planOf ops)[i]? = some p → (∀ ed ∈ o.after, Region.binds .any ed = true → listed.getD ed.on false = true) → ∀ (k : Nat), k < n → p.anc.testBit k = true → listed.getD k false = true := by
    intro listed hcl i
    induction i using Nat.strongRecOn with
    | _ i ih =>
      intro o p ho hp hed k hk hb
      obtain ⟨ed, hem, hbe, hr⟩ := F.anc i o p ho hp k (by omega) hb
      have hlt' := F.edges i o ho ed hem hbe
      have hli := hed ed hem hbe
      rcases hr with rfl | hr
      · exact hli
      · have hin : i < n := hlt ho
        obtain ⟨o2, p2, h1, h3, _⟩ := some3 ed.on (by omega)
        exact ih ed.on hlt' o2 p2 h1 h3 (fun ed2 hm2 hb2 => hcl ed.on o2 hli h1 ed2 hm2 hb2) k hk (by rw [← ancOf_eq h3]; exact hr)
  have hready_nil : ∀ listed : Array Bool, listed.size = n → Region.ready .any ops listed = [] → ∀ k, k < n → listed.getD k false = true := by
    intro listed hsz' hr k
    induction k using Nat.strongRecOn with
    | _ k ih =>
      intro hk
      cases hb : listed.getD k false with
      | true => rfl
      | false =>
        exfalso
        obtain ⟨o, p, h1, _⟩ := some3 k hk
        have : k ∈ Region.ready .any ops listed := mem_ready.2 ⟨by rw [getD_true_iff hsz' hk]; exact hb, o, h1, fun ed hm hbd => ih ed.on (F.edges k o h1 ed hm hbd) (by have := F.edges k o h1 ed hm hbd; omega)⟩
        rw [hr] at this; cases this
  -- nobody else has written what an operation looks at
  have hnone : ∀ (listed : Array Bool), (∀ (i : Nat) (o : Oper), listed.getD i false = true → ops[i]? = some o → ∀ ed ∈ o.after, Region.binds .any ed = true → listed.getD ed.on false = true) →
      ∀ (j : Nat) (t : Nat), j ≤ n → (j < n → ∃ o p, ops[j]? = some o ∧ (planOf ops)[j]? = some p ∧ listed.getD j false = false ∧ memN p.looks t = true) →
      (∀ (k : Nat) (o' : Oper), k < j → ops[k]? = some o' → o'.dst ≠ some t) → ∀ (i : Nat) (o : Oper), listed.getD i false = true → ops[i]? = some o → o.dst ≠ some t := by
    intro listed hcl j t hj hrd hk2 i oi hli hoi hdst
    have hin : i < n := hlt hoi
    by_cases hij : i < j
    · exact hk2 i oi hij hoi hdst
    · have hjn : j < n := by omega
      obtain ⟨o, p, ho, hp, hnl, hlook⟩ := hrd hjn
      by_cases hie : i = j
      · subst hie; rw [hnl] at hli; cases hli
      · obtain ⟨o3, p3, h1, h3, _⟩ := some3 i hin
        rw [hoi] at h1; cases h1
        have hd := (F.dsts i j oi o p3 p hie hoi ho h3 hp t hdst).2 hlook
        rcases hd with hd | hd
        · have := F.ancLt j p hp i (by omega) hd; omega
        · have := hanc listed hcl i oi p3 hoi h3 (fun ed hm hb => hcl i oi hli hoi ed hm hb) j hjn hd
          rw [hnl] at this; cases this
  -- the temporaries that an operation looks at
  have hwritten : ∀ (listed : Array Bool), (∀ (i : Nat) (o : Oper), listed.getD i false = true → ops[i]? = some o → ∀ ed ∈ o.after, Region.binds .any ed = true → listed.getD ed.on false = true) →
      ∀ (j t k : Nat) (ok : Oper), j ≤ n → (j = n → ∀ k, k < n → listed.getD k false = true) → (j < n → ∃ o p, ops[j]? = some o ∧ (planOf ops)[j]? = some p ∧ memN p.looks t = true ∧ (∀ ed ∈ o.after, Region.binds .any ed = true → listed.getD ed.on false = true)) →
      k < j → ops[k]? = some ok → ok.dst = some t → listed.getD k false = true := by
    intro listed hcl j t k ok hj hall hrd hk hok' hdst
    by_cases hjn : j < n
    · obtain ⟨o, p, ho, hp, hlook, hed⟩ := hrd hjn
      obtain ⟨o3, p3, h1, h3, _⟩ := some3 k (by omega)
      rw [hok'] at h1; cases h1
      have hd := (F.dsts k j ok o p3 p (by omega) hok' ho h3 hp t hdst).2 hlook
      rcases hd with hd | hd
      · exact hanc listed hcl j o p ho hp hed k (by omega) hd
      · have := F.ancLt k p3 h3 j (by omega) hd; omega
    · exact hall (by omega) k (by omega)
  have hput : ∀ (a : Act) (d : Option Nat) (x : Value) (t : Nat), d ≠ some t → (a.put d x).tmps[t]? = a.tmps[t]? := by
    intro a d x t hne
    cases d with
    | none => rfl
    | some d =>
      simp only [Act.put, Array.getElem?_setIfInBounds]
      rw [if_neg (fun h => hne (by rw [h]))]
  have hputsz : ∀ (a : Act) (d : Option Nat) (x : Value), (a.put d x).tmps.size = a.tmps.size := by
    intro a d x; cases d <;> simp [Act.put]
  -- who has written
  have hclsk : ∀ (listed : Array Bool), (∀ (i : Nat) (o : Oper), listed.getD i false = true → ops[i]? = some o → ∀ ed ∈ o.after, Region.binds .any ed = true → listed.getD ed.on false = true) →
      ∀ (i : Nat) (o : Oper), ops[i]? = some o → listed.getD i false = false → (∀ ed ∈ o.after, Region.binds .any ed = true → listed.getD ed.on false = true) → ∀ j, j < n → W j →
        ((compOp P C.G o.op).cls = .k → (j < i → listed.getD j false = true) ∧ (i < j → listed.getD j false = false)) ∧
        ((compOp P C.G o.op).cls = .l → (j < i → listed.getD j false = true) ∧ (i < j → listed.getD j false = false)) ∧
        ((compOp P C.G o.op).cls = .a → (i < j → listed.getD j false = false)) := by
    intro listed hcl i o ho hnl hed j hj hWj
    obtain ⟨hexj, oj, hoj, hcj⟩ := hWj
    have hi : i < n := hlt ho
    obtain ⟨o1, p1, e1, e2, e3, e4, _⟩ := some3 i hi
    rw [ho] at e1; cases e1
    obtain ⟨o2, p2, f1, f2, f3, f4, _⟩ := some3 j hj
    rw [hoj] at f1; cases f1
    obtain ⟨g1, hg1, _⟩ := hgood i o ho
    obtain ⟨g2, hg2, _⟩ := hgood j oj hoj
    have hup : ∀ k, k < n → p1.anc.testBit k = true → listed.getD k false = true := hanc listed hcl i o p1 ho e2 hed
    have hdown : p2.anc.testBit i = true → listed.getD j false = false := by
      intro hb
      cases hlj : listed.getD j false with
      | false => rfl
      | true =>
        exfalso
        have := hanc listed hcl j oj p2 hoj f2 (fun ed hm hb => hcl j oj hlj hoj ed hm hb) i hi hb
        rw [hnl] at this; cases this
    have hl1 : (ops.toList.map (compOper P C.G nt ops))[i]? = some (compOper P C.G nt ops o) := by rw [← hflat]; exact e4
    have hl2 : (ops.toList.map (compOper P C.G nt ops))[j]? = some (compOper P C.G nt ops oj) := by rw [← hflat]; exact f4
    have hkj : (compOper P C.G nt ops oj).op.cls = .k := by rw [hg2]; exact hcj
    have hdoj := allN_ok hdo j (by rw [hfl1]; omega)
    rw [f4] at hdoj
    simp only [hkj] at hdoj
    have hdoji := allN_ok hdoj i (by rw [hfl1]; omega)
    rw [e4] at hdoji
    rw [e3, f3] at hdoji
    refine ⟨fun hk => ?_, fun hk => ?_, fun hk => ?_⟩
    · have hki : (compOper P C.G nt ops o).op.cls = .k := by rw [hg1]; exact hk
      exact ⟨fun hji => hup j hj (F.kk j i _ _ p1 hji hl2 hl1 e2 hkj hki), fun hij => hdown (F.kk i j _ _ p2 hij hl1 hl2 f2 hki hkj)⟩
    · have hki : (compOper P C.G nt ops o).op.cls = .l := by rw [hg1]; exact hk
      simp only [hki, Bool.or_eq_true] at hdoji
      rcases hdoji with hb | hb
      · have := F.ancLt i p1 e2 j (by omega) hb
        exact ⟨fun _ => hup j hj hb, fun hij => by omega⟩
      · have := F.ancLt j p2 f2 i (by omega) hb
        exact ⟨fun hji => by omega, fun _ => hdown hb⟩
    · have hki : (compOper P C.G nt ops o).op.cls = .a := by rw [hg1]; exact hk
      simp only [hki, Bool.or_eq_true, Bool.not_eq_true'] at hdoji
      intro hij
      rcases hdoji with hb | hb
      · have : Nat.blt i j = true := by simpa using hij
        rw [this] at hb; cases hb
      · exact hdown hb
  have hallk : ∀ (listed : Array Bool), (∀ (i : Nat) (o : Oper), listed.getD i false = true → ops[i]? = some o → ∀ ed ∈ o.after, Region.binds .any ed = true → listed.getD ed.on false = true) →
      ∀ (i : Nat) (o : Oper), ops[i]? = some o → (∀ ed ∈ o.after, Region.binds .any ed = true → listed.getD ed.on false = true) → (compOp P C.G o.op).cls = .k → ∀ k m z, k < i → oc k = .pal m z → listed.getD k false = true := by
    intro listed hcl i o ho hed hk k m z hki hc
    have hi : i < n := hlt ho
    obtain ⟨o1, p1, e1, e2, e3, e4, _⟩ := some3 i hi
    rw [ho] at e1; cases e1
    obtain ⟨g1, hg1, _⟩ := hgood i o ho
    obtain ⟨_, ok, el, hok', hdk, hck⟩ := hpald k m z (by omega) hc
    obtain ⟨o2, p2, f1, f2, f3, f4, _⟩ := some3 k (by omega)
    rw [hok'] at f1; cases f1
    obtain ⟨g2, hg2, _⟩ := hgood k ok hok'
    have hkk : (compOper P C.G nt ops o).op.cls = .k := by rw [hg1]; exact hk
    have hdoj := allN_ok hdo i (by rw [hfl1]; omega)
    rw [e4] at hdoj
    simp only [hkk] at hdoj
    have hdoji := allN_ok hdoj k (by rw [hfl1]; omega)
    rw [f4] at hdoji
    have hka : (compOper P C.G nt ops ok).op.cls = .a := by rw [hg2]; simp only [hck]; rfl
    rw [e3] at hdoji
    simp only [hka, Bool.or_eq_true, Bool.not_eq_true'] at hdoji
    rcases hdoji with hb | hb
    · have : Nat.blt k i = true := by simpa using hki
      rw [this] at hb; cases hb
    · exact hanc listed hcl i o p1 ho e2 hed k (by omega) hb
  -- the end
  have hfin : ∀ listed a w, Inv listed a w → (∀ k, k < n → listed.getD k false = true) → Q .normal a w := by
    intro listed a w hI hall
    obtain ⟨hls, hcl, hd, R, B, p, rL, hpn, hp0, hpw, hx, hnp, hmem, hr1, hr2, hbs, htsz, hw, hu, hqq⟩ := hI
    have hnW : ∀ k, p ≤ k → k < n → ¬ W k := fun k h1 h2 hW => by have := (hpw k h2 hW).1 (hall k h2); omega
    obtain ⟨s1, s2, s3⟩ := seg p n hpn (Nat.le_refl _) hnW
    have hrr : ∀ m, look rL m = look (sts n).r m := by
      intro m
      by_cases hex2 : ∃ k z, p ≤ k ∧ k < n ∧ oc k = .pal m z
      · obtain ⟨k, z, h1, h2, h3⟩ := hex2
        rw [hr1 k m z h1 h2 (hall k h2) h3, s3 k m z h1 h2 h3]
      · have hno : ∀ k z, p ≤ k → k < n → oc k ≠ .pal m z := fun k z h1 h2 h3 => hex2 ⟨k, z, h1, h2, h3⟩
        rw [hr2 m (fun k z h1 h2 _ => hno k z h1 h2), s2 m hno]
    rw [hs'] at hκ
    refine hQ (sts n) a w hκ ⟨R, B, hx, by rw [s1]; exact hnp, ⟨by rw [s1]; exact hmem.rel, ⟨fun m i hm => ?_, hmem.priv.inj, by rw [s1]; exact hmem.priv.apart⟩⟩, ⟨fun t v hv => ?_⟩, ⟨fun t m off hv => ?_⟩, htsz, hd⟩
    · obtain ⟨h1, l', h2, h3⟩ := hmem.priv.at_ m i hm
      exact ⟨h1, l', by rw [← hrr]; exact h2, h3⟩
    · rcases srcE n (Nat.le_refl _) t v hv with ⟨k, o', h1, h2, h3, h4⟩ | ⟨h1, h2⟩
      · have := hw k o' t (hall k h1) h2 h3
        rw [h4] at this; exact this
      · exact hu t v h1 (hnone listed hcl n t (Nat.le_refl _) (fun h => by omega) h2)
    · rcases srcQ n (Nat.le_refl _) t m off hv with ⟨k, o', h1, h2, h3, h4⟩ | ⟨h1, h2⟩
      · have := hw k o' t (hall k h1) h2 h3
        rcases h4 with h4 | ⟨z, h4, rfl⟩
        · rw [h4] at this; exact this
        · rw [h4] at this; exact this
      · exact hqq t m off h1 (hnone listed hcl n t (Nat.le_refl _) (fun h => by omega) h2)
  -- a step
  have hstep : ∀ listed a w, Inv listed a w → ∀ i, i ∈ Region.ready .any ops listed → ∀ K : Act → World → Prop, (∀ a' w', Inv (listed.setIfInBounds i true) a' w' → K a' w') → wpOp P ops Q i K a w := by
    intro listed a w hI i hi K hK
    obtain ⟨hls, hcl, hd, R, B, p, rL, hpn, hp0, hpw, hx, hnp, hmem, hr1, hr2, hbs, htsz, hw, hu, hqq⟩ := hI
    obtain ⟨hli, o, ho, hed⟩ := mem_ready.1 hi
    have hin : i < n := hlt ho
    have hnl : listed.getD i false = false := by rw [← getD_true_iff hls hin]; exact hli
    obtain ⟨o2, pi, ho2, hpi, _, _, hA⟩ := some3 i hin
    rw [ho] at ho2; cases ho2
    obtain ⟨g, hg, hcg, hdok⟩ := hgood i o ho
    rw [hg] at hA
    have hsz' : i < listed.size := by omega
    have hLs : ∀ k, (listed.setIfInBounds i true).getD k false = (decide (k = i) || listed.getD k false) := fun k => set_getD hsz'
    have hLi : (listed.setIfInBounds i true).getD i false = true := by rw [hLs]; simp
    have hLo : ∀ k, k ≠ i → (listed.setIfInBounds i true).getD k false = listed.getD k false := fun k hk => by rw [hLs]; simp [hk]
    have hclk := hclsk listed hcl i o ho hnl hed
    have hmw := hmem.rel
    -- what it looks at
    have hem : EnvL R (selE true pi.looks (sts i).e) a.tmps := by
      refine ⟨fun t v hv => ?_⟩
      obtain ⟨ht, hmemt⟩ := look_restr _ _ _ _ hv
      rcases srcE i (by omega) t v ht with ⟨k, o', h1, h2, h3, h4⟩ | ⟨h1, h2⟩
      · have := hw k o' t (hwritten listed hcl i t k o' (by omega) (fun h => by omega) (fun _ => ⟨o, pi, ho, hpi, hmemt, hed⟩) h1 h2 h3) h2 h3
        rw [h4] at this; exact this
      · exact hu t v h1 (hnone listed hcl i t (by omega) (fun _ => ⟨o, pi, ho, hpi, hnl, hmemt⟩) h2)
    have hqm : QOk B (selQ true pi.looks (sts i).q) a.tmps := by
      refine ⟨fun t m off hv => ?_⟩
      obtain ⟨ht, hmemt⟩ := look_restrQ _ _ _ _ hv
      rcases srcQ i (by omega) t m off ht with ⟨k, o', h1, h2, h3, h4⟩ | ⟨h1, h2⟩
      · have := hw k o' t (hwritten listed hcl i t k o' (by omega) (fun h => by omega) (fun _ => ⟨o, pi, ho, hpi, hmemt, hed⟩) h1 h2 h3) h2 h3
        rcases h4 with h4 | ⟨z, h4, rfl⟩
        · rw [h4] at this; exact this
        · rw [h4] at this; exact this
      · exact hqq t m off h1 (hnone listed hcl i t (by omega) (fun _ => ⟨o, pi, ho, hpi, hnl, hmemt⟩) h2)
    -- the invariant behind it
    have mk : ∀ (R' : Ren) (B' : Bs) (p' : Nat) (rL' : Rg) (w' : World) (x : Value), p' ≤ n → (p' = 0 ∨ ∃ j, p' = j + 1 ∧ W j ∧ (listed.setIfInBounds i true).getD j false = true) →
        (∀ j, j < n → W j → ((listed.setIfInBounds i true).getD j false = true ↔ j < p')) → Ext nR R0 R' → nR ≤ (sts p').σ.next → MemI C R' B' rL' (sts p').σ w' →
        (∀ k m z, p' ≤ k → k < n → (listed.setIfInBounds i true).getD k false = true → oc k = .pal m z → look rL' m = some z) →
        (∀ m, (∀ k z, p' ≤ k → k < n → (listed.setIfInBounds i true).getD k false = true → oc k ≠ .pal m z) → look rL' m = look (sts p').r m) →
        (∀ k m z, k < n → oc k = .pal m z → (listed.setIfInBounds i true).getD k false = false → B' m = none) → Le R R' → (∀ m b, B m = some b → B' m = some b) →
        (∀ t, o.dst = some t → Tok R' B' (some x) (oc i)) → K (a.put o.dst x) w' := by
      intro R' B' p' rL' w' x h1 h2 h3 h4 h5 h6 h7 h8 h9 h10 h11 h12
      refine hK _ _ ⟨by rw [Array.size_setIfInBounds]; exact hls, ?_, by rw [defers_put]; exact hd, R', B', p', rL', h1, h2, h3, h4, h5, h6, h7, h8, h9, by rw [hputsz]; exact htsz, ?_, ?_, ?_⟩
      · intro i' o' hi' ho' ed hm' hb'
        rw [hLs] at hi' ⊢
        simp only [Bool.or_eq_true, decide_eq_true_eq] at hi' ⊢
        rcases hi' with rfl | hi'
        · rw [ho] at ho'; cases ho'
          exact .inr (hed ed hm' hb')
        · exact .inr (hcl i' o' hi' ho' ed hm' hb')
      · intro i' o' t hi' ho' hdt
        rw [hLs] at hi'
        simp only [Bool.or_eq_true, decide_eq_true_eq] at hi'
        by_cases he : i' = i
        · subst he
          rw [ho] at ho'; cases ho'
          have := h12 t hdt
          have htl : t < a.tmps.size := Nat.lt_of_lt_of_le (hdlt i' o t ho hdt) htsz
          have hpt : (a.put o.dst x).tmps[t]? = some x := by rw [hdt]; simp [Act.put, Array.getElem?_setIfInBounds, htl]
          rw [hpt]; exact this
        · have := hw i' o' t (hi'.resolve_left he) ho' hdt
          rw [hput a o.dst x t (hdu i' i o' o t he ho' ho hdt)]
          exact this.mono h10 h11
      · intro t v hv hno
        rw [hput a o.dst x t (hno i o hLi ho)]
        obtain ⟨y, hy1, hy2⟩ := hu t v hv (fun i' o' hi' ho' => hno i' o' (by rw [hLs, hi']; simp) ho')
        exact ⟨y, hy1, conc_mono h10 v y hy2⟩
      · intro t m off hv hno
        rw [hput a o.dst x t (hno i o hLi ho)]
        obtain ⟨b, hb1, hb2⟩ := hqq t m off hv (fun i' o' hi' ho' => hno i' o' (by rw [hLs, hi']; simp) ho')
        exact ⟨b, h11 m b hb1, hb2⟩
    -- an operation that writes nothing that others see
    have mk0 : ∀ (R' : Ren) (w' : World) (x : Value), ¬ W i → (∀ m z, oc i ≠ .pal m z) → Ext nR R0 R' → MemI C R' B rL (sts p).σ w' → Le R R' → (∀ t, o.dst = some t → Tok R' B (some x) (oc i)) → K (a.put o.dst x) w' := by
      intro R' w' x hnW hnp' h1 h2 h3 h4
      refine mk R' B p rL w' x hpn ?_ ?_ h1 hnp h2 ?_ ?_ ?_ h3 (fun _ _ h => h) h4
      · rcases hp0 with h | ⟨j, h5, h6, h7⟩
        · exact .inl h
        · exact .inr ⟨j, h5, h6, by rw [hLs, h7]; simp⟩
      · intro j hj hWj
        by_cases hji : j = i
        · subst hji; exact (hnW hWj).elim
        · rw [hLo j hji]; exact hpw j hj hWj
      · intro k m z hk1 hk2 hk3 hk4
        by_cases hki : k = i
        · subst hki; exact (hnp' m z hk4).elim
        · rw [hLo k hki] at hk3; exact hr1 k m z hk1 hk2 hk3 hk4
      · intro m hm
        refine hr2 m (fun k z hk1 hk2 hk3 => ?_)
        exact hm k z hk1 hk2 (by rw [hLs, hk3]; simp)
      · intro k m z hk1 hk2 hk3
        by_cases hki : k = i
        · subst hki; rw [hLi] at hk3; cases hk3
        · rw [hLo k hki] at hk3; exact hbs k m z hk1 hk2 hk3
    have hext : ∀ R', (∀ k, k < (sts p).σ.next → k ≠ (sts p).σ.next → R' k = R k) → Ext nR R0 R' := fun R' hk k hkn => by rw [hk k (by omega) (by omega)]; exact hx k hkn
    -- how far memory is
    have hpi' : (∀ j, j < n → W j → i < j → listed.getD j false = false) → p ≤ i := by
      intro hno
      rcases hp0 with h | ⟨j, h1, h2, h3⟩
      · omega
      · rcases Nat.lt_trichotomy j i with h4 | h4 | h4
        · omega
        · subst h4; rw [hnl] at h3; cases h3
        · have hW := h2
          obtain ⟨_, oj, hoj, _⟩ := h2
          rw [hno j (hlt hoj) hW h4] at h3; cases h3
    have hnoW : (∀ j, j < n → W j → j < i → listed.getD j false = true) → ∀ k, p ≤ k → k < i → ¬ W k := by
      intro hyes k hk1 hk2 hWk
      have := (hpw k (by omega) hWk).1 (hyes k (by omega) hWk hk2)
      omega
    have hsame : p ≤ i → (∀ k, p ≤ k → k < i → ¬ W k) → (sts i).σ = (sts p).σ ∧ ∀ x m off, markX (selQ true pi.looks (sts i).q) x = some (m, off) → look rL m = look (sts i).r m := by
      intro hpi2 hnW
      obtain ⟨s1, s2, s3⟩ := seg p i hpi2 (by omega) hnW
      refine ⟨s1, fun x m off hmx => ?_⟩
      cases x with
      | con v => cases hmx
      | tmp u =>
        have hmx : look (selQ true pi.looks (sts i).q) u = some (m, off) := hmx
        obtain ⟨b, hb, _⟩ := hqm.at_ u m off hmx
        have hroot := roots i (by omega) u m off (look_restrQ _ _ _ _ hmx).1
        by_cases hex2 : ∃ k z, p ≤ k ∧ k < i ∧ oc k = .pal m z
        · obtain ⟨k, z, h1, h2, h3⟩ := hex2
          have hlk : listed.getD k false = true := by
            cases hlk : listed.getD k false with
            | true => rfl
            | false => have := hbs k m z (by omega) h3 hlk; rw [hb] at this; cases this
          rw [hr1 k m z h1 (by omega) hlk h3, s3 k m z h1 h2 h3]
        · have hno : ∀ k z, p ≤ k → k < i → oc k ≠ .pal m z := fun k z h1 h2 h3 => hex2 ⟨k, z, h1, h2, h3⟩
          rw [hr2 m (fun k z h1 h2 _ h3 => hno k z h1 (hroot k z h2 h3) h3), s2 m hno]
    have hgl := hmw.globOk
    unfold wpOp
    rw [ho]
    simp only
    generalize hoc : oc i = c at hA
    generalize hexi : ex i = xx at hA
    cases hA with
    | skip _ hwn h =>
      rw [if_neg (by rw [wanted_ok hem.env hcg hwn]; simp)]
      exact mk0 R w undef (fun hW => by have h9 := hW.1; rw [hexi] at h9; cases h9) (fun m z hh => by rw [hoc] at hh; cases hh) hx hmem (Le.refl _) (fun t _ => by rw [hoc]; exact ⟨_, rfl, rfl⟩)
    | mark _ pw id nx m off hwn hs h =>
      rw [if_pos (wanted_ok hem.env hcg hwn)]
      left
      have hs2 : Step C.E D pw (sts p).σ.next ((sts p).σ.next + 1) (compOp P C.G o.op) (selE true pi.looks (sts i).e) (selQ true pi.looks (sts i).q) rL (sts p).σ (.mark m off) := mark_any hs
      refine step_ok hD hmem hem hqm o (hmw.fresh _ (Nat.le_refl _)) (Nat.lt_succ_self _) (Nat.le_succ _) hs2 K Q (fun v2 r2 σ2 heq => by cases heq) (fun m2 off2 heq b hb => ?_)
      cases heq
      refine mk0 R w _ (fun hW => ?_) (fun m z hh => by rw [hoc] at hh; cases hh) hx hmem (Le.refl _) (fun t _ => by rw [hoc]; exact ⟨b, hb, rfl⟩)
      obtain ⟨_, o3, ho3, hc3⟩ := hW
      rw [ho] at ho3; cases ho3
      cases hs with
      | mv x _ _ hoo _ => have hoo : compOp P C.G o.op = _ ∨ compOp P C.G o.op = _ := hoo; rcases hoo with hoo | hoo <;> (rw [hoo] at hc3; cases hc3)
      | fa d x _ _ hoo _ => have hoo : compOp P C.G o.op = _ := hoo; rw [hoo] at hc3; cases hc3
    | pal _ d el z hdd hoo hwn h =>
      rw [if_pos (wanted_ok hem.env hcg hwn)]
      left
      have hoo : compOp P C.G o.op = .alloc el z := hoo
      have hdd : o.dst = some d := hdd
      have hca : (compOp P C.G o.op).cls = .a := by rw [hoo]; rfl
      have hple := hpi' (fun j hj hW hij => (hclk j hj hW).2.2 hca hij)
      have hBd : B d = none := hbs i d z hin hoc hnl
      refine pal_ok hmem o (d := d) hoo K Q (fun b w' hmem' => ?_)
      refine mk R (fun m => if m = d then some b else B m) p ((d, z) :: without [d] rL) w' _ hpn ?_ ?_ hx hnp hmem' ?_ ?_ ?_ (Le.refl _) (fun m b' hb' => ?_) (fun t _ => ?_)
      · rcases hp0 with h | ⟨j, h5, h6, h7⟩
        · exact .inl h
        · exact .inr ⟨j, h5, h6, by rw [hLs, h7]; simp⟩
      · intro j hj hWj
        by_cases hji : j = i
        · subst hji
          obtain ⟨_, o3, ho3, hc3⟩ := hWj
          rw [ho] at ho3; cases ho3
          rw [hca] at hc3; cases hc3
        · rw [hLo j hji]; exact hpw j hj hWj
      · intro k m z' hk1 hk2 hk3 hk4
        by_cases hki : k = i
        · subst hki; rw [hoc] at hk4; cases hk4; simp [look]
        · rw [hLo k hki] at hk3
          have hmd : ¬ d = m := fun he => hki (hpalu k i m z' z hk2 hin hk4 (by rw [hoc, he]))
          simp only [look, Nat.beq_eq]
          rw [if_neg hmd, look_without, if_neg (fun hh => hmd ((memN_one d m).1 hh))]
          exact hr1 k m z' hk1 hk2 hk3 hk4
      · intro m hm
        have hmd : ¬ d = m := fun he => hm i z hple hin hLi (by rw [hoc, he])
        simp only [look, Nat.beq_eq]
        rw [if_neg hmd, look_without, if_neg (fun hh => hmd ((memN_one d m).1 hh))]
        exact hr2 m (fun k z' hk1 hk2 hk3 => hm k z' hk1 hk2 (by rw [hLs, hk3]; simp))
      · intro k m z' hk1 hk2 hk3
        by_cases hki : k = i
        · subst hki; rw [hLi] at hk3; cases hk3
        · rw [hLo k hki] at hk3
          have hmd : ¬ m = d := fun he => hki (hpalu k i m z' z hk1 hin hk2 (by rw [hoc, he]))
          rw [if_neg hmd]; exact hbs k m z' hk1 hk2 hk3
      · by_cases hmd : m = d
        · subst hmd; rw [hBd] at hb'; cases hb'
        · rw [if_neg hmd]; exact hb'
      · rw [hoc]; exact ⟨b, by simp, rfl⟩
    | val _ pw v r' σ' hwn hs hl' hna h =>
      rw [if_pos (wanted_ok hem.env hcg hwn)]
      left
      have hs : Step C.E D pw (sts i).σ.next ((sts i).σ.next + 1) (compOp P C.G o.op) (selE true pi.looks (sts i).e) (selQ true pi.looks (sts i).q) (sts i).r (sts i).σ (.val v r' σ') := hs
      have hl' : o.dst = none ∨ v.live = true ∨ (compOp P C.G o.op).cls ≠ .k := hl'
      have hna : (compOp P C.G o.op).cls ≠ .a := hna
      have htok : ∀ (R' : Ren) (x : Value), ((v = .dead ∧ (compOp P C.G o.op).cls = .k) ∨ conc R' v = some x) → ∀ t, o.dst = some t → Tok R' B (some x) (oc i) := by
        intro R' x hv t ht
        rw [hoc]
        refine ⟨x, rfl, ?_⟩
        rcases hv with ⟨rfl, hc⟩ | hv
        · rcases hl' with h | h | h
          · rw [ht] at h; cases h
          · cases h
          · exact (h hc).elim
        · exact hv
      by_cases hck : (compOp P C.G o.op).cls = .k
      · -- it writes
        have hWi : W i := ⟨hexi, o, ho, hck⟩
        have hple := hpi' (fun j hj hW hij => ((hclk j hj hW).1 hck).2 hij)
        have hnW := hnoW (fun j hj hW hji => ((hclk j hj hW).1 hck).1 hji)
        obtain ⟨hσ, hrm⟩ := hsame hple hnW
        obtain ⟨s1, s2, s3⟩ := seg p i hple (by omega) hnW
        rw [hσ] at hs
        obtain ⟨rL', hs2, hrel⟩ := step_move (rL := rL) hs hrm
        refine step_ok hD hmem hem hqm o (hmw.fresh _ (Nat.le_refl _)) (Nat.lt_succ_self _) (Nat.le_succ _) hs2 K Q (fun v2 r2 σ2 heq R' w' x hle hk hn' hmem' hv => ?_) (fun m off heq => by cases heq)
        cases heq
        have hσ' : (sts (i + 1)).σ = σ' := h.2.2.2
        have hr' : (sts (i + 1)).r = r' := h.2.2.1
        have hall := hallk listed hcl i o ho hed hck
        -- what the blocks of the call's own held
        have hold : ∀ m, (∀ k z, i ≤ k → k < n → (listed.setIfInBounds i true).getD k false = true → oc k ≠ .pal m z) → look rL m = look (sts i).r m := by
          intro m hm
          by_cases hex2 : ∃ k z, p ≤ k ∧ k < i ∧ oc k = .pal m z
          · obtain ⟨k, z, h1, h2, h3⟩ := hex2
            rw [hr1 k m z h1 (by omega) (hall k m z h2 h3) h3, s3 k m z h1 h2 h3]
          · have hno : ∀ k z, p ≤ k → k < i → oc k ≠ .pal m z := fun k z h1 h2 h3 => hex2 ⟨k, z, h1, h2, h3⟩
            rw [hr2 m (fun k z h1 h2 h3 h4 => ?_), s2 m hno]
            rcases Nat.lt_or_ge k i with h5 | h5
            · exact hno k z h1 h5 h4
            · exact hm k z h5 h2 (by rw [hLs, h3]; simp) h4
        have hmroot : ∀ x m off, markX (selQ true pi.looks (sts i).q) x = some (m, off) → ∀ k z, k < n → oc k = .pal m z → k < i := by
          intro x m off hmx
          cases x with
          | con v => cases hmx
          | tmp u =>
            have hmx : look (selQ true pi.looks (sts i).q) u = some (m, off) := hmx
            exact roots i (by omega) u m off (look_restrQ _ _ _ _ hmx).1
        refine mk R' B (i + 1) rL' w' x (by omega) (.inr ⟨i, rfl, hWi, hLi⟩) ?_ (hext R' hk) (by rw [hσ']; omega) (by rw [hσ']; exact hmem') ?_ ?_ ?_ hle (fun _ _ h => h) (htok R' x hv)
        · intro j hj hWj
          by_cases hji : j = i
          · subst hji; rw [hLi]; simp
          · rw [hLo j hji]
            rcases Nat.lt_trichotomy j i with h4 | h4 | h4
            · rw [((hclk j hj hWj).1 hck).1 h4]; simp; omega
            · exact (hji h4).elim
            · rw [((hclk j hj hWj).1 hck).2 h4]; simp; omega
        · intro k m z hk1 hk2 hk3 hk4
          have hk3' : listed.getD k false = true := by rw [hLo k (by omega)] at hk3; exact hk3
          have hb := hr1 k m z (by omega) hk2 hk3' hk4
          rcases hrel with ⟨_, h6⟩ | ⟨x', m', off', c', l', h6, h7, _, h8⟩
          · rw [h6]; exact hb
          · rw [h8]
            have hne : ¬ m' = m := fun he => by have := hmroot x' m' off' h6 k z hk2 (by rw [he]; exact hk4); omega
            rw [look_repl' (by rw [hrm x' m' off' h6]; exact h7), if_neg hne]; exact hb
        · intro m hm
          have hb := hold m (fun k z hk1 hk2 hk3 hk4 => by
            rcases Nat.eq_or_lt_of_le hk1 with h5 | h5
            · subst h5; rw [hoc] at hk4; cases hk4
            · exact hm k z (by omega) hk2 hk3 hk4)
          rw [hr']
          rcases hrel with ⟨h5, h6⟩ | ⟨x', m', off', c', l', h6, h7, h8, h9⟩
          · rw [h5, h6]; exact hb
          · rw [h8, h9, look_repl' (by rw [hrm x' m' off' h6]; exact h7), look_repl' h7, hb]
        · intro k m z hk1 hk2 hk3
          by_cases hki : k = i
          · subst hki; rw [hLi] at hk3; cases hk3
          · rw [hLo k hki] at hk3; exact hbs k m z hk1 hk2 hk3
      · -- it writes nothing
        have hnWi : ¬ W i := fun hW => by
          obtain ⟨_, o3, ho3, hc3⟩ := hW
          rw [ho] at ho3; cases ho3
          exact hck hc3
        have go : Step C.E D pw (sts p).σ.next ((sts p).σ.next + 1) (compOp P C.G o.op) (selE true pi.looks (sts i).e) (selQ true pi.looks (sts i).q) rL (sts p).σ (.val v rL (sts p).σ) → o.wp P a w K Q := by
          intro hs2
          refine step_ok hD hmem hem hqm o (hmw.fresh _ (Nat.le_refl _)) (Nat.lt_succ_self _) (Nat.le_succ _) hs2 K Q (fun v2 r2 σ2 heq R' w' x hle hk hn' hmem' hv => ?_) (fun m off heq => by cases heq)
          cases heq
          exact mk0 R' w' x hnWi (fun m z hh => by rw [hoc] at hh; cases hh) (hext R' hk) hmem' hle (htok R' x hv)
        cases hcls : (compOp P C.G o.op).cls with
        | k => exact (hck hcls).elim
        | a => exact (hna hcls).elim
        | p =>
          refine go ?_
          cases hs with
          | p _ hc h9 => exact .p v hc h9
          | l _ hc h9 => rw [hcls] at hc; cases hc
          | a _ b hc h9 => rw [hcls] at hc; cases hc
          | k _ σ1 _ hc h hs => rw [hcls] at hc; cases hc
          | ld x m off l _ hoo hm hl h => rw [hoo] at hcls; cases hcls
          | ldn n x m off l hoo hm hl h => rw [hoo] at hcls; cases hcls
          | st n x y m off l cs u hw hoo hm hl hn hu hlu hcs h1 hlen h => rw [hoo] at hcls; cases hcls
        | l =>
          have hple := hpi' (fun j hj hW hij => ((hclk j hj hW).2.1 hcls).2 hij)
          have hnW := hnoW (fun j hj hW hji => ((hclk j hj hW).2.1 hcls).1 hji)
          obtain ⟨hσ, hrm⟩ := hsame hple hnW
          rw [hσ] at hs
          obtain ⟨rL', hs2, _⟩ := step_move (rL := rL) hs hrm
          obtain ⟨e1, e2⟩ := step_still hs2 hck hna
          rw [e1, e2] at hs2
          exact go hs2
  -- any order
  have hany : ∀ fuel listed a w, Inv listed a w → (List.range n).countP (fun k => !listed.getD k false) ≤ fuel → wpAny P .any ops Q fuel listed a w := by
    intro fuel
    induction fuel with
    | zero =>
      intro listed a w hI hcnt
      have hall : ∀ k, k < n → listed.getD k false = true := by
        intro k hk
        have h0 : (List.range n).countP (fun k => !listed.getD k false) = 0 := by omega
        have := List.countP_eq_zero.1 h0 k (List.mem_range.2 hk)
        simpa using this
      refine ⟨?_, hfin listed a w hI hall⟩
      apply List.eq_nil_iff_forall_not_mem.2
      intro j hj
      obtain ⟨h1, o, h2, _⟩ := mem_ready.1 hj
      have hjn : j < n := hlt h2
      rw [getD_true_iff hI.1 hjn, hall j hjn] at h1
      cases h1
    | succ fuel ih =>
      intro listed a w hI hcnt
      refine ⟨fun hr => hfin listed a w hI (hready_nil listed hI.1 hr), fun i hi => ?_⟩
      have hin : i < n := by
        obtain ⟨_, o, h2, _⟩ := mem_ready.1 hi
        exact hlt h2
      have hnl : listed.getD i false = false := by rw [← getD_true_iff hI.1 hin]; exact (mem_ready.1 hi).1
      refine hstep listed a w hI i hi _ (fun a' w' hI' => ih _ a' w' hI' ?_)
      have hsz' : i < listed.size := by rw [hI.1]; exact hin
      have := cnt_lt (p := fun k => !(listed.setIfInBounds i true).getD k false) (q := fun k => !listed.getD k false) (fun k hk => by
        simp only [Bool.not_eq_true'] at hk ⊢
        rw [set_getD hsz'] at hk
        simp only [Bool.or_eq_false_iff] at hk
        exact hk.2) (i := i) (by simp only [hnl]; rfl) (by simp only [set_getD hsz']; simp) (List.range n) (List.mem_range.2 hin)
      omega
  refine wp_region_any hmix ?_
  rw [hnn]
  have hrepl : ∀ k, (Array.replicate n false).getD k false = false := fun k => by
    simp only [Array.getD_eq_getD_getElem?, Array.getElem?_replicate]
    split <;> rfl
  refine hany n _ a0 _ ⟨by simp, ?_, hd0, Rs, Bi, 0, s.r, Nat.zero_le _, .inl rfl, ?_, hx0, by rw [hst0.2.2.2]; exact hn0, ?_, ?_, ?_, ?_, hnt0, ?_, ?_, ?_⟩ ?_
  · intro i o hi; rw [hrepl] at hi; cases hi
  · intro j hj hW; rw [hrepl]; simp
  · rw [hst0.2.2.2]
    refine ⟨hm0.rel.drawn _, ⟨fun m i hm => ?_, fun m m' i i' hm hm' hb => ?_, fun m i hm => ?_⟩⟩
    · simp only [Bi] at hm
      split at hm
      · cases hm
      · exact hm0.priv.at_ m i hm
    · simp only [Bi] at hm hm'
      split at hm
      · cases hm
      · split at hm'
        · cases hm'
        · exact hm0.priv.inj m m' i i' hm hm' hb
    · simp only [Bi] at hm
      split at hm
      · cases hm
      · exact hm0.priv.apart m i hm
  · intro k m z h1 h2 h3; rw [hrepl] at h3; cases h3
  · intro m _; rw [hst0.2.2.1]
  · intro k m z h1 h2 _
    simp only [Bi]
    rw [if_pos (hpalm k m z h1 h2)]
  · intro i o t hi; rw [hrepl] at hi; cases hi
  · intro t v hv _; exact he0.at_ t v hv
  · intro t m off hv _
    obtain ⟨i, h1, h2⟩ := hq0.at_ t m off hv
    refine ⟨i, ?_, h2⟩
    simp only [Bi]
    rw [if_neg (fun hh => palsOk_mem hpo m hh t off hv)]
    exact h1
  · refine Nat.le_trans (List.countP_le_length) (by simp)
end Go.Og

set_option linter.unusedSimpArgs false
namespace Go.Og
variable {P : Program} {D : Den} {C : Cx}

theorem look_mem {α : Type} : ∀ {l : List (Nat × α)} {k : Nat} {a : α}, look l k = some a → (k, a) ∈ l
  | [], k, a, h => by simp [look] at h
  | (m, b) :: l, k, a, h => by
    simp only [look, Nat.beq_eq] at h
    split at h
    · rename_i he; subst he; cases h; exact List.mem_cons_self
    · exact List.mem_cons_of_mem _ (look_mem h)
theorem keepE_some {e : Env} : ∀ (ts : List (Nat × XTy)) (κ : Env → Ans) (res : V × H), keepE e ts κ = some res → ∃ e', (∀ t v, look e' t = some v → look e t = some v) ∧ κ e' = some res
  | [], κ, res, h => ⟨[], fun t v hv => by simp [look] at hv, h⟩
  | (t, ty) :: l, κ, res, h => by
    simp only [keepE] at h
    unfold getK at h
    simp only at h
    cases hl : look e t with
    | none => rw [hl] at h; cases h
    | some v =>
      rw [hl] at h
      have h2 := rt_some _ _ _ _ h
      obtain ⟨e', h3, h4⟩ := keepE_some l _ res h2
      refine ⟨_, fun u w hu => ?_, h4⟩
      simp only [look, Nat.beq_eq] at hu
      split at hu
      · rename_i he; subst he; cases hu; exact hl
      · exact h3 u w hu
theorem keepL_some {e : Env} : ∀ (ts : List (Nat × XTy)) (κ : Env → Ans) (res : V × H), keepL e ts κ = some res → ∃ e', (∀ t v, look e' t = some v → look e t = some v ∧ v.live = true) ∧ κ e' = some res
  | [], κ, res, h => ⟨[], fun t v hv => by simp [look] at hv, h⟩
  | (t, ty) :: l, κ, res, h => by
    simp only [keepL, getL] at h
    cases hl : look e t with
    | none => rw [hl] at h; cases h
    | some v =>
      rw [hl] at h
      obtain ⟨hlv, h⟩ := chk_some h
      have h2 := rt_some _ _ _ _ h
      obtain ⟨e', h3, h4⟩ := keepL_some l _ res h2
      refine ⟨_, fun u w hu => ?_, h4⟩
      simp only [look, Nat.beq_eq] at hu
      split at hu
      · rename_i he; subst he; cases hu; exact ⟨hl, hlv⟩
      · exact h3 u w hu
theorem keepR_some {r : Rg} : ∀ (rs : List (Nat × List XTy)) (κ : Rg → Ans) (res : V × H), keepR r rs κ = some res → ∃ r', (∀ m l, look r' m = some l → look r m = some l) ∧ (∀ m, memN (rs.map Prod.fst) m = true → ∃ l, look r' m = some l) ∧ κ r' = some res
  | [], κ, res, h => ⟨[], fun t v hv => by simp [look] at hv, fun m hm => by simp [memN] at hm, h⟩
  | (m, tys) :: l, κ, res, h => by
    simp only [keepR] at h
    cases hl : look r m with
    | none => rw [hl] at h; cases h
    | some cs =>
      rw [hl] at h
      have h2 := rts_some _ _ _ _ h
      obtain ⟨r', h3, h4, h5⟩ := keepR_some l _ res h2
      refine ⟨_, fun u w hu => ?_, fun u hu => ?_, h5⟩
      · simp only [look, Nat.beq_eq] at hu
        split at hu
        · rename_i he; subst he; cases hu; exact hl
        · exact h3 u w hu
      · simp only [look, Nat.beq_eq]
        by_cases he : m = u
        · exact ⟨cs, by rw [if_pos he]⟩
        · rw [if_neg he]
          simp only [List.map_cons] at hu
          exact h4 u (((memN_cons m _ u).1 hu).resolve_left he)
theorem look_keepQ : ∀ (ms rs : List Nat) (q : Qs) (t : Nat) (p : Nat × Nat), look (keepQ ms rs q) t = some p → look q t = some p ∧ memN rs p.1 = true
  | [], rs, q, t, p, h => by simp [keepQ, look] at h
  | a :: l, rs, q, t, p, h => by
    simp only [keepQ] at h
    split at h
    · rename_i p' hp
      split at h
      · rename_i hm
        simp only [look, Nat.beq_eq] at h
        split at h
        · rename_i he; subst he; cases h; exact ⟨hp, hm⟩
        · exact look_keepQ l rs q t p h
      · exact look_keepQ l rs q t p h
    · exact look_keepQ l rs q t p h

theorem keepS_ok {nR : Nat} {R0 : Ren} {nt : Nat} {ts : List (Nat × XTy)} {ms : List Nat} {rs : List (Nat × List XTy)} {s : St} {κ : St → Ans} {res : V × H} (h : keepS ts ms rs s κ = some res) {a : Act} {w : World} (hI : InvS C nR R0 nt s a w) :
    ∃ s0, κ s0 = some res ∧ InvS C nR R0 nt s0 a w := by
  unfold keepS at h
  obtain ⟨e', he', h⟩ := keepE_some _ _ _ h
  obtain ⟨r', hr1, hr2, h⟩ := keepR_some _ _ _ h
  obtain ⟨R, B, h1, h2, h3, h4, h5, h6, h7⟩ := hI
  refine ⟨_, h, R, fun m => if memN (rs.map Prod.fst) m = true then B m else none, h1, h2, ⟨h3.rel, ⟨fun m i hm => ?_, fun m m' i i' hm hm' => ?_, fun m i hm => ?_⟩⟩, h4.sub he', ⟨fun t m off hq => ?_⟩, h6, h7⟩
  · split at hm
    · rename_i hmem
      obtain ⟨hO, l, hl, hok'⟩ := h3.priv.at_ m i hm
      obtain ⟨l', hl'⟩ := hr2 m hmem
      have := hr1 m l' hl'
      rw [hl] at this; cases this
      exact ⟨hO, l, hl', hok'⟩
    · cases hm
  · split at hm
    · split at hm'
      · exact h3.priv.inj m m' i i' hm hm'
      · cases hm'
    · cases hm
  · split at hm
    · exact h3.priv.apart m i hm
    · cases hm
  · obtain ⟨hq1, hq2⟩ := look_keepQ _ _ _ _ _ hq
    obtain ⟨i, hi1, hi2⟩ := h5.at_ t m off hq1
    refine ⟨i, ?_, hi2⟩
    rw [if_pos hq2]; exact hi1

theorem denC_ok (hD : ∀ f, SoundFn P C.E C.G f (D f)) {W : DrawFn} (hW : SoundW P C.E C.G W) (hmix : P.follows .mixedOrders = true) (N nt : Nat) {nR : Nat} {R0 : Ren} {res : V × H} :
    ∀ (xc : XC) (c : Code), xc.strip = compC P C.G nt c → xc.ok = true → ∀ (s : St) (kn : St → Ans) (kx : Nat → St → Ans) (kr : St → Ans), denC C.E D W N xc s kn kx kr = some res →
      ∀ (a : Act) (w : World) (Q : Exit → Act → World → Prop), InvS C nR R0 nt s a w → (∀ s' a' w', kn s' = some res → InvS C nR R0 nt s' a' w' → Q .normal a' w') →
        (∀ id s' a' w', kx id s' = some res → InvS C nR R0 nt s' a' w' → Q (.exit id) a' w') → (∀ s' a' w', kr s' = some res → InvS C nR R0 nt s' a' w' → Q .ret a' w') → c.wp P Q a w := by
  intro xc
  induction xc with
  | bad => intro c _ _ s kn kx kr h; cases h
  | keep ts ms rs xc ih =>
    intro c hs hok s kn kx kr h a w Q hI hn hx hr
    rw [denC_keep] at h
    obtain ⟨s0, h, hI⟩ := keepS_ok h hI
    exact ih c hs hok s0 kn kx kr h a w Q hI hn hx hr
  | skip =>
    intro c hs hok s kn kx kr h a w Q hI hn hx hr
    cases c <;> simp only [XC.strip, compC] at hs <;> (try (cases hs; done))
    · exact wp_skip (hn s a w h hI)
    · rename_i i o d; cases d <;> (first | (cases hs; done) | (simp only [compC] at hs; split at hs <;> cases hs))
  | exit id =>
    intro c hs hok s kn kx kr h a w Q hI hn hx hr
    cases c <;> simp only [XC.strip, compC] at hs <;> (try (cases hs; done))
    · rename_i i o d; cases d <;> (first | (cases hs; done) | (simp only [compC] at hs; split at hs <;> cases hs))
    · cases hs; exact wp_exit (hx id s a w h hI)
  | ret =>
    intro c hs hok s kn kx kr h a w Q hI hn hx hr
    cases c <;> simp only [XC.strip, compC] at hs <;> (try (cases hs; done))
    · rename_i i o d; cases d <;> (first | (cases hs; done) | (simp only [compC] at hs; split at hs <;> cases hs))
    · exact wp_ret (hr s a w h hI)
  | ops l =>
    intro c hs hok s kn kx kr h a w Q hI hn hx hr
    cases c <;> simp only [XC.strip, compC] at hs <;> (try (cases hs; done))
    rename_i i o d
    cases d
    case true => simp only [compC] at hs; split at hs <;> cases hs
    simp only [compC, AC.region.injEq] at hs
    rw [denC_ops] at h
    obtain ⟨s', hrun, hκ, _⟩ := denL_run l none none none true 0 s _ res h hok (.inl ⟨rfl, rfl⟩) (fun h => by cases h)
    refine wp_region_list (run_seq hD hrun o.toList a w ?_ hI (fun a' w' hI' => hn _ a' w' hκ hI'))
    obtain ⟨h1, h2⟩ := flat_len l none
    rw [List.map_fst_zip (by omega), hs]
  | draw l ancs =>
    intro c hs hok s kn kx kr h a w Q hI hn hx hr
    cases c <;> simp only [XC.strip, compC] at hs <;> (try (cases hs; done))
    rename_i i o d
    cases d <;> simp only [compC] at hs <;> (try (cases hs; done))
    split at hs
    case isFalse => cases hs
    rename_i hplan
    simp only [AC.draw.injEq] at hs
    rw [denC_draw] at h
    unfold drawK at h
    split at h
    · rename_i hpo
      simp only [XC.ok, Bool.and_eq_true, Nat.beq_eq, Bool.not_eq_true'] at hok
      obtain ⟨⟨⟨⟨k1, k2⟩, k3⟩, k4⟩, k5⟩ := hok
      exact draw_ok hD hmix i hs.1 hs.2 hplan k1 k2 k3 k4 k5 hpo h hI Q (fun s' a' w' hκ hI' => hn s' a' w' hκ hI')
    · cases h
  | gdraw ops pl ts =>
    intro c hs hok s kn kx kr h a w Q hI hn hx hr
    cases c <;> simp only [XC.strip, compC] at hs <;> (try (cases hs; done))
    rename_i i o d
    cases d <;> simp only [compC] at hs <;> (try (cases hs; done))
    split at hs
    case isFalse => cases hs
    rename_i hplan
    simp only [AC.draw.injEq] at hs
    obtain ⟨rfl, rfl⟩ := hs
    rw [denC_gdraw] at h
    cases h1 : W (o.toList.map (compOper P C.G nt o)) (planOf o) s.e s.σ with
    | none => rw [h1] at h; cases h
    | some q =>
      obtain ⟨e1, σ1⟩ := q
      rw [h1] at h
      obtain ⟨e', he', h⟩ := keepL_some _ _ _ h
      obtain ⟨R, B, g1, g2, g3, g4, g5, g6, g7⟩ := hI
      refine hW C rfl rfl nt i o s.e s.σ e1 σ1 hplan h1 R a w Q g3.rel g4.env g6 g7 (fun R' a' w' hx' hn' hrel' he1 hsz hd => ?_)
      refine hn _ a' w' h ⟨R', fun _ => none, g1.trans hx' g2, Nat.le_trans g2 hn', ⟨hrel', ⟨fun m i hm => (by cases hm), fun m m' i i' hm => (by cases hm), fun m i hm => (by cases hm)⟩⟩, ⟨fun t v hv => ?_⟩, ⟨fun t m off hq => (by simp [look] at hq)⟩, hsz, hd⟩
      obtain ⟨h2, h3⟩ := he' t v hv
      rcases he1.at_ t v h2 with rfl | h4
      · cases h3
      · exact h4
  | seq p q ihp ihq =>
    intro c hs hok s kn kx kr h a w Q hI hn hx hr
    cases c <;> simp only [XC.strip, compC] at hs <;> (try (cases hs; done))
    · rename_i i o d; cases d <;> (first | (cases hs; done) | (simp only [compC] at hs; split at hs <;> cases hs))
    rename_i c1 c2
    simp only [AC.seq.injEq] at hs
    simp only [XC.ok, Bool.and_eq_true] at hok
    rw [denC_seq] at h
    refine wp_seq (ihp c1 hs.1 hok.1 s _ kx kr h a w _ hI (fun s' a' w' h' hI' => ?_) (fun id s' a' w' h' hI' => hx id s' a' w' h' hI') (fun s' a' w' h' hI' => hr s' a' w' h' hI'))
    exact ihq c2 hs.2 hok.2 s' kn kx kr h' a' w' Q hI' hn hx hr
  | cond o p q ihp ihq =>
    intro c hs hok s kn kx kr h a w Q hI hn hx hr
    cases c <;> simp only [XC.strip, compC] at hs <;> (try (cases hs; done))
    · rename_i i o d; cases d <;> (first | (cases hs; done) | (simp only [compC] at hs; split at hs <;> cases hs))
    rename_i co c1 c2
    simp only [AC.cond.injEq] at hs
    obtain ⟨rfl, h1, h2⟩ := hs
    simp only [XC.ok, Bool.and_eq_true] at hok
    rw [denC_cond] at h
    obtain ⟨v, hv, _, h⟩ := getK_some h
    obtain ⟨cb, rfl, h9⟩ := rtBool_some h
    have hI2 := hI
    obtain ⟨R, B, g1, g2, g3, g4, g5, g6, g7⟩ := hI2
    have hev := ev_bool (a := a) g4.env g3.rel.globOk hv
    cases cb with
    | true => exact wp_cond_true hev (ihp c1 h1 hok.1 s kn kx kr h9 a w Q hI hn hx hr)
    | false => exact wp_cond_false hev (ihq c2 h2 hok.2 s kn kx kr h9 a w Q hI hn hx hr)
  | block id p ih =>
    intro c hs hok s kn kx kr h a w Q hI hn hx hr
    cases c <;> simp only [XC.strip, compC] at hs <;> (try (cases hs; done))
    · rename_i i o d; cases d <;> (first | (cases hs; done) | (simp only [compC] at hs; split at hs <;> cases hs))
    rename_i i c1
    simp only [AC.block.injEq] at hs
    obtain ⟨rfl, hs⟩ := hs
    rw [denC_block] at h
    refine wp_block (ih c1 hs hok s kn _ kr h a w _ hI (fun s' a' w' h' hI' => hn s' a' w' h' hI') (fun j s' a' w' h' hI' => ?_) (fun s' a' w' h' hI' => hr s' a' w' h' hI'))
    show Exit.inBlock id Q (.exit j) a' w'
    simp only [Exit.inBlock]
    unfold blkK at h'
    split at h'
    · rename_i hj
      rw [Nat.beq_eq] at hj
      rw [if_pos hj]; exact hn s' a' w' h' hI'
    · rename_i hj
      rw [if_neg (fun hh => by rw [← Nat.beq_eq, hj] at hh; cases hh)]; exact hx j s' a' w' h' hI'
  | loop ts ms rs p ih =>
    intro c hs hok s kn kx kr h a w Q hI hn hx hr
    cases c <;> simp only [XC.strip, compC] at hs <;> (try (cases hs; done))
    · rename_i i o d; cases d <;> (first | (cases hs; done) | (simp only [compC] at hs; split at hs <;> cases hs))
    rename_i c1
    simp only [AC.loop.injEq] at hs
    rw [denC_loop] at h
    obtain ⟨s0, h, hI⟩ := keepS_ok h hI
    have key : ∀ (n : Nat) (s : St) (a : Act) (w : World), iterK (fun rec s' => denC C.E D W N p s' (fun s'' => keepS ts ms rs s'' rec) kx kr) n s = some res → InvS C nR R0 nt s a w → Code.rounds P c1 Q n a w := by
      intro n
      induction n with
      | zero => intro s a w h; cases h
      | succ n ihn =>
        intro s a w h hI
        have h : denC C.E D W N p s (fun s'' => keepS ts ms rs s'' (iterK (fun rec s' => denC C.E D W N p s' (fun s'' => keepS ts ms rs s'' rec) kx kr) n)) kx kr = some res := h
        rw [rounds_succ]
        refine ih c1 hs hok s _ kx kr h a w _ hI (fun s' a' w' h' hI' => ?_) (fun id s' a' w' h' hI' => hx id s' a' w' h' hI') (fun s' a' w' h' hI' => hr s' a' w' h' hI')
        obtain ⟨s2, h2, hI2⟩ := keepS_ok h' hI'
        exact ihn s2 a' w' h2 hI2
    exact wp_loop_rounds N (key N s0 a w h hI)

/-! ### functions -/
theorem andThen_inv {α β : Type} {x : Result α} {g : α → World → Result β} {z : β} {w : World} (h : Result.andThen x g = .ok z w) : ∃ y w2, x = .ok y w2 ∧ g y w2 = .ok z w := by
  cases x with
  | ok y w2 => exact ⟨y, w2, rfl, h⟩
  | _ => cases h
theorem resK_ok {R : Ren} {B : Bs} {s : St} {w : World} {a : Act} (hm : MemI C R B s.r s.σ w) (he : EnvL R s.e a.tmps) (hq : QOk B s.q a.tmps) : ∀ (rs : List ResultVar) (as : List AR) (κ : List V → Ans) (res : V × H), compRs P rs = some as → resK C.E s as κ = some res →
    ∃ l xs, κ l = some res ∧ concs R l = some xs ∧ (rs.mapM (m := Sem) fun
      | .tmp t => pure (a.tmps.getD t undef)
      | .cell b t => do loadVar t (← asAddr (a.tmps.getD b undef))).run P w = .ok xs w
  | [], as, κ, res, hc, h => by
    simp only [compRs, Option.some.injEq] at hc; subst hc
    exact ⟨[], [], h, rfl, rfl⟩
  | r :: rs, as, κ, res, hc, h => by
    simp only [compRs] at hc
    cases hr : compR P r with
    | none => rw [hr] at hc; cases hc
    | some ar =>
      cases hrs : compRs P rs with
      | none => rw [hr, hrs] at hc; cases hc
      | some as' =>
        rw [hr, hrs] at hc
        simp only [Option.some.injEq] at hc
        subst hc
        -- one result by the elder theorem
        have one : ∀ (C2 : Cx) (R2 : Ren) (σ2 : H) (e2 : Env) (v : V), Rel C2 R2 σ2 w → EnvOk R2 e2 a.tmps → resV C2.E e2 σ2 [ar] = some [v] → Le R R2 → (∃ x, conc R v = some x) → resK C.E s as' (fun l => κ (v :: l)) = some res →
            ∃ l xs, κ l = some res ∧ concs R l = some xs ∧ ((r :: rs).mapM (m := Sem) fun
              | .tmp t => pure (a.tmps.getD t undef)
              | .cell b t => do loadVar t (← asAddr (a.tmps.getD b undef))).run P w = .ok xs w := by
          intro C2 R2 σ2 e2 v h1 h2 h3 hle ⟨x, hx⟩ h4
          obtain ⟨xs, h5, h6⟩ := resV_ok (P := P) h1 h2 [r] [ar] [v] (by simp only [compRs, hr]) h3
          obtain ⟨y, ys, h7, h8, rfl⟩ := concs_cons.1 h5
          simp only [concs, Option.some.injEq] at h8; subst h8
          have := conc_mono hle v x hx
          rw [h7] at this; cases this
          obtain ⟨l, xs, g1, g2, g3⟩ := resK_ok hm he hq rs as' _ res hrs h4
          refine ⟨v :: l, _, g1, concs_cons.2 ⟨_, _, hx, g2, rfl⟩, ?_⟩
          rw [List.mapM_cons] at h6 ⊢
          rw [Sem.run_bind] at h6 ⊢
          obtain ⟨y2, w2, e1, e2⟩ := andThen_inv h6
          simp only [Sem.run_bind, List.mapM_nil, Sem.run_pure, Result.andThen_ok, Result.ok.injEq, List.cons.injEq, and_true] at e2
          obtain ⟨rfl, rfl⟩ := e2
          refine (congrArg (fun r => Result.andThen r _) e1).trans ?_
          simp only [Result.andThen_ok, Sem.run_bind, g3, Sem.run_pure]
        cases r with
        | tmp t =>
          simp only [compR, Option.some.injEq] at hr
          subst hr
          simp only [resK] at h
          unfold getK at h
          simp only at h
          cases hl : look s.e t with
          | none => rw [hl] at h; cases h
          | some v =>
            rw [hl] at h
            obtain ⟨x, hx1, hx2⟩ := he.at_ t v hl
            have hge : getE s.e t = v := by simp only [getE, hl]
            refine one C R s.σ s.e v hm.rel he.env ?_ (Le.refl _) ⟨x, hx2⟩ h
            simp only [resV, hge, live_of_conc hx2]
        | cell t ty =>
          simp only [compR] at hr
          cases hs : shapeOf P ty with
          | none => rw [hs] at hr; cases hr
          | some n =>
            rw [hs] at hr
            simp only [Option.some.injEq] at hr
            subst hr
            simp only [resK] at h
            split at h
            · rename_i m off hqt
              obtain ⟨i, hi1, hi2⟩ := hq.at_ t m off hqt
              split at h
              · rename_i cs hcs
                have hr2 := hm.priv.one hm.rel hi1 hcs
                have he2 : EnvOk (upd R s.σ.next i) [(t, .ptr s.σ.next off)] a.tmps := EnvOk.cons ⟨fun k v hk => by simp [look] at hk⟩ hi2 (conc_ptr_mk (upd_same _ _ _))
                have hle : Le R (upd R s.σ.next i) := (upd_ext R s.σ.next i).le hm.rel.fresh
                obtain ⟨_, l', hl', hok⟩ := hm.priv.at_ m i hi1
                rw [hcs] at hl'; cases hl'
                obtain ⟨arr, el, lo, hi, _, hh, _⟩ := hok
                have hgp : getE [(t, V.ptr s.σ.next off)] t = .ptr s.σ.next off := by simp [getE, look]
                have hrd : rd C.E ⟨s.σ.next + 1, [(s.σ.next, .cells cs)]⟩ s.σ.next = some cs := by simp [rd, look]
                split at h
                · obtain ⟨v, hv, h⟩ := nthK_some h
                  obtain ⟨x, hx, _⟩ := hh off v hv
                  refine one _ _ _ _ v hr2 he2 ?_ hle ⟨x, hx⟩ h
                  simp only [resV, hgp, hrd, hv]
                · rename_i n
                  obtain ⟨hb, h⟩ := subK_some h
                  obtain ⟨xs, hxs, _⟩ := hh.cells (by simpa using hb)
                  refine one _ _ _ _ _ hr2 he2 ?_ hle ⟨_, conc_agg_mk hxs⟩ h
                  simp only [resV, hgp, rdN, hrd, hb, if_true]
              · cases h
            · obtain ⟨p, hp, _, h⟩ := getK_some h
              obtain ⟨b, o, rfl, h9⟩ := rtPtr_some h
              have hgp : getE s.e t = .ptr b o := hp
              cases n with
              | none =>
                simp only at h9
                obtain ⟨l, hl, h9⟩ := rdK_some h9
                obtain ⟨v, hv, h9⟩ := nthK_some h9
                obtain ⟨i, arr, el, fr, _, _, hold⟩ := hm.rel.read hl
                obtain ⟨x, hx, _⟩ := hold o v hv
                refine one C R s.σ s.e v hm.rel he.env ?_ (Le.refl _) ⟨x, hx⟩ h9
                simp only [resV, hgp, hl, hv]
              | some n =>
                simp only at h9
                obtain ⟨l, hl, h9⟩ := rdK_some h9
                obtain ⟨hb, h9⟩ := subK_some h9
                obtain ⟨i, arr, el, fr, _, _, hold⟩ := hm.rel.read hl
                obtain ⟨xs, hxs, _⟩ := hold.cells (by simpa using hb)
                refine one C R s.σ s.e _ hm.rel he.env ?_ (Le.refl _) ⟨_, conc_agg_mk hxs⟩ h9
                simp only [resV, hgp, rdN, hl, hb, if_true]

theorem runX_ok {E : List (Nat × Blk)} {G : Nat → Bool} (hD : ∀ f, SoundFn P E G f (D f)) {W : DrawFn} (hW : SoundW P E G W) (hmix : P.follows .mixedOrders = true) (N : Nat) {f : FuncId} {fn : Func} (hf : P.funcs[f]? = some fn)
    {xf : XFn} {af' : AFn} (hc : compF P G fn = some af') (hs : xf.strip = af') (hxok : xf.body.ok = true) (hok : callOk P f = true) : SoundFn P E G f (runX E D W N xf) := by
  intro C hE hG R σ w args xs v σ' h hrel hxs
  subst hE hG
  refine ⟨hok, ?_⟩
  unfold compF at hc
  cases hb : fn.body with
  | none => rw [hb] at hc; cases hc
  | some c =>
    cases hr : compRs P fn.results.toList with
    | none => rw [hb, hr] at hc; cases hc
    | some rs =>
      rw [hb, hr] at hc
      simp only [Option.some.injEq] at hc
      rw [← hs] at hc
      obtain ⟨nt, params, resl, body⟩ := xf
      simp only [XFn.strip, AFn.mk.injEq] at hc
      obtain ⟨rfl, rfl, _, hbody⟩ := hc
      unfold runX at h
      simp only at h
      have h := rts_some _ _ _ _ h
      have hlen := concs_length hxs
      refine calls_of_wp hf hb ?_
      have hsz : fn.ntmps ≤ (xs.toArray ++ Array.replicate (fn.ntmps - xs.toArray.size) undef).size := by simp; omega
      have harg : ∀ (l : List V) (ys : List Value) (k : Nat), concs R l = some ys → ∀ (t : Nat) (v : V), look (argE k l) t = some v → ∃ y, k ≤ t ∧ ys[t - k]? = some y ∧ conc R v = some y := by
        intro l
        induction l with
        | nil => intro ys k _ t v h; simp [argE, look] at h
        | cons u l ih =>
          intro ys k hc t v h
          obtain ⟨y, zs, hy, hz, rfl⟩ := concs_cons.1 hc
          simp only [argE, look] at h
          by_cases hk : k = t
          · subst hk
            rw [if_pos (by simp)] at h
            cases h
            exact ⟨y, Nat.le_refl _, by simp, hy⟩
          · rw [if_neg (by simpa using hk)] at h
            obtain ⟨q, h1, h2, h3⟩ := ih zs (k + 1) hz t v h
            exact ⟨q, by omega, by rw [show t - k = (t - (k + 1)) + 1 by omega, List.getElem?_cons_succ]; exact h2, h3⟩
      have he0 : EnvL R (argE 0 args) (xs.toArray ++ Array.replicate (fn.ntmps - xs.toArray.size) undef) := by
        refine ⟨fun k u hk => ?_⟩
        obtain ⟨y, _, h2, h3⟩ := harg args xs 0 hxs k u hk
        refine ⟨y, ?_, h3⟩
        rw [Nat.sub_zero] at h2
        have hlt : k < xs.length := by
          rcases Nat.lt_or_ge k xs.length with h | h
          · exact h
          · rw [List.getElem?_eq_none h] at h2; cases h2
        rw [Array.getElem?_append_left (by simpa using hlt)]
        simpa using h2
      have fin : ∀ (s' : St) (a' : Act) (w' : World), (resK C.E s' rs fun l => some (oneV l, s'.σ)) = some (v, σ') → InvS C σ.next R fn.ntmps s' a' w' →
          a'.defers = [] ∧ ∃ x, (results fn a'.tmps).run P w' = .ok x w' ∧ ∃ R' x', Ext σ.next R R' ∧ σ.next ≤ σ'.next ∧ Rel C R' σ' w' ∧ conc R' v = some x' ∧ Ending.returned x = .returned x' := by
        intro s' a' w' h' ⟨R1, B1, k1, k2, k3, k4, k5, k6, k7⟩
        obtain ⟨l, ys, g1, g2, g3⟩ := resK_ok (P := P) k3 k4 k5 fn.results.toList rs _ _ hr h'
        simp only [Option.some.injEq, Prod.mk.injEq] at g1
        obtain ⟨rfl, rfl⟩ := g1
        have hres : (results fn a'.tmps).run P w' = .ok (if h : ys.toArray.size = 1 then ys.toArray[0] else .tuple ys.toArray) w' := by
          unfold results
          refine (Sem.run_bind P w' _ _).trans ?_
          rw [Array.mapM_eq_mapM_toList, Sem.run_map]
          refine (congrArg (fun r => Result.andThen (Result.andThen r _) _) g3).trans rfl
        exact ⟨k7, _, hres, R1, _, k1, k2, k3.rel, oneV_ok g2, rfl⟩
      refine denC_ok (C := C) hD hW hmix N fn.ntmps body c hbody.symm hxok _ _ _ _ h _ w _ ⟨R, fun _ => none, Ext.refl _ _, Nat.le_refl _, ⟨hrel, ⟨fun m i hm => (by cases hm), fun m m' i i' hm => (by cases hm), fun m i hm => (by cases hm)⟩⟩, he0, ⟨fun t m off hq => (by simp [look] at hq)⟩, hsz, rfl⟩ ?_ ?_ ?_
      · intro s' a' w' h' hI'
        obtain ⟨h1, x, h2, h3⟩ := fin s' a' w' h' hI'
        exact ⟨h1, x, h2, h3⟩
      · intro id s' a' w' h' _; cases h'
      · intro s' a' w' h' hI'
        obtain ⟨h1, x, h2, h3⟩ := fin s' a' w' h' hI'
        exact ⟨h1, x, h2, h3⟩
end Go.Og

set_option linter.unusedSimpArgs false
namespace Go.Og

def okB (a : Ans) : Bool := match a with
  | some (.bool true, _) => true
  | _ => false
theorem okB_some {a : Ans} (h : okB a = true) : ∃ σ, a = some (.bool true, σ) := by
  unfold okB at h
  split at h
  · exact ⟨_, rfl⟩
  · cases h

/-- The variables' own blocks, and no other. -/
def globR (ng : Nat) : Ren := fun id => if id < ng then some ⟨id, 0, 0⟩ else none

theorem start_rel {G : Nat → Bool} {ng n0 : Nat} (hG : ∀ g, G g = true → g < ng) (hn : ng ≤ n0) (w : World) :
    Rel ⟨fun blk => w.heap.size ≤ blk, w, [], G⟩ (globR ng) ⟨n0, []⟩ w where
  fresh id hid := by
    have hid' : n0 ≤ id := hid
    unfold globR; rw [if_neg (by omega)]
  own id b hb := by simp [look] at hb
  inj id id' b b' i i' hb := by simp [look] at hb
  ext id b hb := by simp [look] at hb
  glob g hg := ⟨⟨g, 0, 0⟩, by unfold globR; rw [if_pos (hG g hg)], rfl, rfl⟩
  fr _ _ := rfl
  size := Nat.le_refl _
  new _ h := h
  os := rfl
  tape := rfl
  output := rfl

/-- The variables' own blocks, and those that the arguments name. -/
def argR (ng : Nat) (l : List (Nat × BI)) : Ren := fun id => if id < ng then some ⟨id, 0, 0⟩ else look l id
theorem ExtOk.lt {R : Ren} {i : BI} {b : Blk} {w : World} (h : ExtOk R i b w) : i.blk < w.heap.size := by
  cases b with
  | cells l =>
    obtain ⟨arr, el, fr, h1, _⟩ := h
    exact (Array.getElem?_eq_some_iff.1 h1).1
  | _ => exact h.elim
theorem start_relE {G : Nat → Bool} {ng n0 : Nat} (hG : ∀ g, G g = true → g < ng) (hn : ng ≤ n0) (l : List (Nat × BI)) (E : List (Nat × Blk)) (w : World) (hl : ∀ id i, look l id = some i → id < n0)
    (hE : ∀ id b, look E id = some b → ∃ i, argR ng l id = some i ∧ ExtOk (argR ng l) i b w) :
    Rel ⟨fun blk => w.heap.size ≤ blk, w, E, G⟩ (argR ng l) ⟨n0, []⟩ w where
  fresh id hid := by
    have hid' : n0 ≤ id := hid
    unfold argR; rw [if_neg (by omega)]
    cases hk : look l id with
    | none => rfl
    | some i => have := hl id i hk; omega
  own id b hb := by simp [look] at hb
  inj id id' b b' i i' hb := by simp [look] at hb
  ext id b hb := by
    obtain ⟨i, h1, h2⟩ := hE id b hb
    exact ⟨i, h1, Nat.not_le.2 h2.lt, h2⟩
  glob g hg := ⟨⟨g, 0, 0⟩, by unfold argR; rw [if_pos (hG g hg)], rfl, rfl⟩
  fr _ _ := rfl
  size := Nat.le_refl _
  new _ h := h
  os := rfl
  tape := rfl
  output := rfl
end Go.Og

set_option linter.unusedSimpArgs false
set_option linter.unusedVariables false
namespace Go.Og
noncomputable section

section
variable {R S : Ren} {n0 d : Nat}
/-! ### blocks -/
theorem look_app {α : Type} : ∀ (l m : List (Nat × α)) (id : Nat), look (l ++ m) id = match look l id with | some b => some b | none => look m id
  | [], m, id => rfl
  | (k, b) :: l, m, id => by
    simp only [List.cons_append, look]
    cases Nat.beq k id with
    | true => rfl
    | false => simpa using look_app l m id
end

/-! ### equal blocks -/
def prsEq : List (V × V) → List (V × V) → Bool
  | [], [] => true
  | p :: l, q :: m => V.beq p.1 q.1 && V.beq p.2 q.2 && prsEq l m
  | _, _ => false
theorem prsEq_ok : ∀ {l m : List (V × V)}, prsEq l m = true → l = m
  | [], [], _ => rfl
  | (a, b) :: l, (c, d) :: m, h => by
    simp only [prsEq, Bool.and_eq_true] at h
    rw [beq_ok _ _ h.1.1, beq_ok _ _ h.1.2, prsEq_ok h.2]
  | [], _ :: _, h => by cases h
  | _ :: _, [], h => by cases h
def blkEq : Blk → Blk → Bool
  | .cells a, .cells b => beqs a b
  | .map a, .map b => prsEq a b
  | _, _ => false
theorem blkEq_ok {a b : Blk} (h : blkEq a b = true) : a = b := by
  cases a <;> cases b <;> simp only [blkEq, Bool.false_eq_true] at h
  · rw [beqs_ok _ _ h]
  · rw [prsEq_ok h]
/-- Each of these blocks is there. -/
def inBl : List (Nat × Blk) → List (Nat × Blk) → Bool
  | [], _ => true
  | p :: l, m => (match lookF m p.1 with
    | some b => blkEq b p.2
    | none => false) && inBl l m
theorem inBl_ok : ∀ {l m : List (Nat × Blk)}, inBl l m = true → ∀ p ∈ l, look m p.1 = some p.2
  | [], _, _, p, hp => by cases hp
  | q :: l, m, h, p, hp => by
    simp only [inBl, Bool.and_eq_true, lookF_eq] at h
    rcases List.mem_cons.1 hp with rfl | hp
    · have h1 := h.1
      cases hb : look m p.1 with
      | none => rw [hb] at h1; cases h1
      | some b => rw [hb] at h1; rw [blkEq_ok h1]
    · exact inBl_ok h.2 p hp

/-! ### what is known -/
/-! ### what is no longer needed -/
/-! ### arguments as they come -/
theorem cell_int {P : Program} {w : World} {r : Reach} {base : Nat} {t : TypeId} {k : IntKind} {v : Value} (ht : P.underlying t = some (.int k)) (h : Cell.okWide P w r base t v) : ∃ n, v = .int k n := by
  unfold Cell.okWide at h
  rw [ht] at h
  unfold Cell.ok at h
  rw [ht] at h
  cases v <;> simp at h
  obtain ⟨rfl, _⟩ := h
  exact ⟨_, rfl⟩
end
end Go.Og
set_option linter.all false
set_option maxRecDepth 100000
set_option maxHeartbeats 0
namespace Go.Proofs.YtabnjnkmdknhaaaGreatDoor
open Go Go.Og
noncomputable section
variable (E : List (Nat × Blk)) (D : Den) (W : DrawFn) (N : Nat)
def y0 : V := (V.int .i64 (Int.ofNat 0))
def y1 : V := (V.str ⟨0, 0⟩)
def y2 : XTy := (.agg [.bool, .bool, .bool, .bool, .i, .i])
def y3 : XTy := (.agg [.i, .str, .bool, .i, .i, .bool, .bool, .bool, .bool, .i, .i, .any, .any, .i, .bool, .i])
def y4 : XTy := (.agg [.i, .str, .i])
def y5 : V := (V.bool false)
def y6 : V := (V.int .u8 (Int.ofNat 0))
def y7 : XTy := (.tup [])
def y8 : AO := (.con (V.int .u8 (Int.ofNat 45)))
def y9 : XTy := (.agg [.str, .i, .any, .any, .any])
def y10 : AOp := (.mov (.t 0))
def y11 : AO := (.con (V.int .u32 (Int.ofNat 100)))
def y12 : AO := (.con (V.bool true))
def y13 : AOp := (.mov (.t 1))
def y14 : AO := (.con (V.int .u32 (Int.ofNat 2)))
def y15 : AO := (.con (V.int .u32 (Int.ofNat 1)))
def y16 : AO := (.con (V.str ⟨10, 488440487847103610377301⟩))
def y17 : AO := (.con (V.int .u8 (Int.ofNat 48)))
def y18 : AO := (.con (V.str ⟨2, 11822⟩))
def y19 : AO := (.con (V.str ⟨8, 4990918871747741011⟩))
def y20 : AO := (.con (V.str ⟨7, 22026814072246082⟩))
def y21 : AO := (.con (V.str ⟨7, 23157120498421321⟩))
def y22 : AO := (.con (V.int .u32 (Int.ofNat 10000)))
def y23 : V := (V.int .i64 (Int.negSucc 0))
def y24 : AO := (.con (V.str ⟨6, 76155295057987⟩))
def y25 : AO := (.con (V.str ⟨10, 322399817400452109389381⟩))
def y26 : AO := (.con (V.str ⟨4, 1397178708⟩))
def y27 : AO := (.con (V.str ⟨4, 1280070990⟩))
def y28 : AO := (.con (V.str ⟨1, 123⟩))
def y29 : AO := (.con (V.str ⟨1, 41⟩))
def y30 : AO := (.con (V.str ⟨8, 6073459554577832005⟩))
def y31 : AO := (.con (V.str ⟨8, 6073459554577829193⟩))
def y32 : AO := (.con (V.str ⟨3, 5130573⟩))
def y33 : AO := (.con (V.str ⟨3, 5522771⟩))
/-- What is said again and again, for short. -/
def nX : Nat → St → Ans := fun _ _ => none
def kX (ts : List (Nat × XTy)) (ms : List Nat) (rs : List (Nat × List XTy)) (κ : St → Ans) : St → Ans := fun s => keepS ts ms rs s κ
def dX (E : List (Nat × Blk)) (D : Den) (W : DrawFn) (N : Nat) (c : XC) (k : St → Ans) (x : Nat → St → Ans) (r : St → Ans) : St → Ans := fun s => denC E D W N c s k x r

/-! ### F3: ogham_oghamlaw06.PrintCons -/
def C3_0 (cc1 : XC) : XC := (.z (.c 8 y5<|
.nil)
 (.z (.m 16 2<|
.P 17 (.conv (.toInt .u64) (.t 16))<|
.b 18 .rem .none (.t 17) (.con (V.int .u64 (Int.ofNat 6)))<|
.P 19 (.conv (.toInt .i64) (.t 18))<|
.m 2 19<|
.nil)
 (.z (.m 20 0<|
.k 21 .str 4 [(.t 20)]<|
.b 22 .add .none (.t 21) y18<|
.m 23 1<|
.k 24 .str 4 [(.t 23)]<|
.b 25 .add .none (.t 22) (.t 24)<|
.m 26 0<|
.k 27 .str 4 [(.t 26)]<|
.b 28 .add .none (.t 27) y18<|
.m 29 0<|
.k 30 .str 4 [(.t 29)]<|
.b 31 .add .none (.t 28) (.t 30)<|
.m 32 0<|
.k 33 .str 4 [(.t 32)]<|
.m 34 0<|
.k 35 .str 4 [(.t 34)]<|
.b 36 .add .none (.t 35) (.con (V.str ⟨5, 379052699182⟩))<|
.m 37 1<|
.k 38 .str 4 [(.t 37)]<|
.b 39 .add .none (.con (V.str ⟨5, 198345378125⟩)) (.t 38)<|
.p 40 [25, 31, 33, 36, 39] (.buildSlice 9 6 [y1, y1, y1, y1, y1, y1] [(0, 1, (.t 25)), (1, 1, (.t 31)), (2, 1, (.t 33)), (3, 1, (.t 36)), (4, 1, (.t 39)), (5, 1, y32)])<|
.m 41 2<|
.s 42 1 40 41<|
.l 43 .str 42<|
.m 9 43<|
.nil)
 (.z (.m 44 0<|
.k 45 .str 4 [(.t 44)]<|
.b 46 .add .none (.t 45) y18<|
.m 47 1<|
.k 48 .str 4 [(.t 47)]<|
.b 49 .add .none (.t 46) (.t 48)<|
.m 50 0<|
.k 51 .str 4 [(.t 50)]<|
.m 52 0<|
.k 53 .str 4 [(.t 52)]<|
.m 54 0<|
.k 55 .str 4 [(.t 54)]<|
.b 56 .add .none (.t 55) (.con (V.str ⟨5, 379052699182⟩))<|
.m 57 1<|
.k 58 .str 4 [(.t 57)]<|
.b 59 .add .none (.con (V.str ⟨5, 198345378125⟩)) (.t 58)<|
.p 60 [49, 51, 53, 56, 59] (.buildSlice 9 6 [y1, y1, y1, y1, y1, y1] [(0, 1, (.t 49)), (1, 1, (.t 51)), (2, 1, (.t 53)), (3, 1, (.t 56)), (4, 1, (.t 59)), (5, 1, (.con (V.str ⟨8, 6359449009564567885⟩)))])<|
.m 61 2<|
.s 62 1 60 61<|
.l 63 .str 62<|
.m 10 63<|
.nil)
 (.seq (.z (.m 64 2<|
.b 65 .eql .none (.t 64) (.i 0)<|
.m 66 65<|
.gA 66 true (.p 67 [0, 66] y10<|
.p 68 [1, 66] y13<|
.p 69 [67, 68, 66] (.bin .eql .none (.t 67) (.t 68))<|
.nil) 70 66 69<|
.nil)
 (.cond (.tmp 70) (.ops (.m 71 0<|
.k 72 .str 4 [(.t 71)]<|
.m 10 72<|
.nil))
 .skip))
 (.keep [(3, .bool), (9, .str), (10, .str)] [] [] cc1))))))
def T3_0 (E : List (Nat × Blk)) (D : Den) (W : DrawFn) (K1 : Bool → BS → BS → H → Ans) (a b c : Int) (d : Bool) (σ : H) : Ans :=
 callK (D 4 [.int .i64 a] σ) fun u1 s2 =>
 rtStr u1 fun x3 =>
 catK x3 (BS.mk 2 11822) fun t4 =>
 callK (D 4 [.int .i64 b] s2) fun u5 s6 =>
 rtStr u5 fun x7 =>
 catK t4 x7 fun t8 =>
 callK (D 4 [.int .i64 a] s6) fun u9 s10 =>
 rtStr u9 fun x11 =>
 catK x11 (BS.mk 2 11822) fun t12 =>
 callK (D 4 [.int .i64 a] s10) fun u13 s14 =>
 rtStr u13 fun x15 =>
 catK t12 x15 fun t16 =>
 callK (D 4 [.int .i64 a] s14) fun u17 s18 =>
 rtStr u17 fun x19 =>
 callK (D 4 [.int .i64 a] s18) fun u20 s21 =>
 rtStr u20 fun x22 =>
 catK x22 (BS.mk 5 379052699182) fun t23 =>
 callK (D 4 [.int .i64 b] s21) fun u24 s25 =>
 rtStr u24 fun x26 =>
 catK (BS.mk 5 198345378125) x26 fun t27 =>
 let s28 := newB s25 (.cells [.str t8, .str t16, .str x19, .str t23, .str t27, .str (BS.mk 3 5130573)]);
 iaddrSK 1 (V.sl (H.next s25) 0 6 (.ex 6)) (wrapF .i64 (Int.tmod (wrapF .u64 c) (Int.ofNat 6))) fun b29 o30 =>
 ldK E s28 b29 o30 fun u31 =>
 rtStr u31 fun x32 =>
 callK (D 4 [.int .i64 a] s28) fun u33 s34 =>
 rtStr u33 fun x35 =>
 catK x35 (BS.mk 2 11822) fun t36 =>
 callK (D 4 [.int .i64 b] s34) fun u37 s38 =>
 rtStr u37 fun x39 =>
 catK t36 x39 fun t40 =>
 callK (D 4 [.int .i64 a] s38) fun u41 s42 =>
 rtStr u41 fun x43 =>
 callK (D 4 [.int .i64 a] s42) fun u44 s45 =>
 rtStr u44 fun x46 =>
 callK (D 4 [.int .i64 a] s45) fun u47 s48 =>
 rtStr u47 fun x49 =>
 catK x49 (BS.mk 5 379052699182) fun t50 =>
 callK (D 4 [.int .i64 b] s48) fun u51 s52 =>
 rtStr u51 fun x53 =>
 catK (BS.mk 5 198345378125) x53 fun t54 =>
 let s55 := newB s52 (.cells [.str t40, .str x43, .str x46, .str t50, .str t54, .str (BS.mk 8 6359449009564567885)]);
 iaddrSK 1 (V.sl (H.next s52) 0 6 (.ex 6)) (wrapF .i64 (Int.tmod (wrapF .u64 c) (Int.ofNat 6))) fun b56 o57 =>
 ldK E s55 b56 o57 fun u58 =>
 rtStr u58 fun x59 =>
 joinB (fun c60 s61 =>
 condK c60 (
 callK (D 4 [.int .i64 a] s61) fun u63 s64 =>
 rtStr u63 fun x65 =>
 K1 d x32 x65 s64) (
 K1 d x32 x59 s61)) fun k62 =>
 condK (eqF (wrapF .i64 (Int.tmod (wrapF .u64 c) (Int.ofNat 6))) (Int.ofNat 0)) (
 k62 (eqF a b) s55) (
 k62 false s55)
def C3_1 (cc2 : XC) : XC := (.z (.c 11 y1<|
.nil)
 (.seq (.z (.m 73 3<|
.nil)
 (.cond (.tmp 73) (.ops (.c 11 (V.str ⟨5, 198343270444⟩)<|
.nil))
 .skip))
 (.keep [(9, .str), (10, .str), (11, .str)] [] [] cc2)))
def T3_1 (E : List (Nat × Blk)) (D : Den) (W : DrawFn) (K2 : BS → BS → BS → H → Ans) (a : Bool) (b c : BS) (σ : H) : Ans :=
 condK a (
 K2 b c (BS.mk 5 198343270444) σ) (
 K2 b c (BS.mk 0 0) σ)
def C3_2 : XC := (.z (.m 75 9<|
.b 76 .add .none (.con (V.str ⟨39, 1307818011897121422451922733390706347676985071784222021968392631138651534820383999223994261581⟩)) (.t 75)<|
.m 77 11<|
.b 78 .add .none (.t 76) (.t 77)<|
.b 79 .add .none (.t 78) (.con (V.str ⟨24, 983888085154580603510626121640460007450711282005888344105⟩))<|
.m 80 9<|
.b 81 .add .none (.t 79) (.t 80)<|
.m 82 11<|
.b 83 .add .none (.t 81) (.t 82)<|
.b 84 .add .none (.t 83) (.con (V.str ⟨28, 7193434253939231318197949102912637021307660997973063145023766276393⟩))<|
.k 85 (.tup [y9, .i, .i]) 5 [(.t 84)]<|
.m 74 85<|
.P 86 (.extract 0 (.t 74))<|
.P 87 (.extract 1 (.t 74))<|
.P 88 (.extract 2 (.t 74))<|
.pal 12 [] 28 [y1, y0, V.nils, V.nils, V.nils]<|
.op none y9 [12, 86] (.store 5 (.t 12) (.t 86))<|
.m 13 87<|
.m 14 88<|
.nil)
 (.z (.m 89 10<|
.b 90 .add .none (.con (V.str ⟨53, 6790579354708687386894014949640630785606080618502221152243543566899706465186766692755885520369579596523724409822006065997553741⟩)) (.t 89)<|
.m 91 11<|
.b 92 .add .none (.t 90) (.t 91)<|
.b 93 .add .none (.t 92) (.con (V.str ⟨24, 983888085154580603510626121640460007450711282005888338473⟩))<|
.m 94 10<|
.b 95 .add .none (.t 93) (.t 94)<|
.m 96 11<|
.b 97 .add .none (.t 95) (.t 96)<|
.b 98 .add .none (.t 97) (.con (V.str ⟨29, 276792900787349391086361123168721576447110417472758936656009265948969⟩))<|
.m 15 98<|
.nil)
 (.z (.k 99 .bool 6 []<|
.m 100 99<|
.gA 100 true (.p 101 [14, 100] (.mov (.t 14))<|
.p 102 [101, 100] (.bin .eql .none (.t 101) (.i 0))<|
.nil) 103 100 102<|
.m 104 103<|
.gA 104 true (.op (some 105) y9 [12, 104] (.load (some 5) (.t 12))<|
.op (some 106) .str [105, 104] (.call 7 [(.t 105)])<|
.p 107 [15, 104] (.mov (.t 15))<|
.p 108 [106, 107, 104] (.bin .eql .none (.t 106) (.t 107))<|
.nil) 109 104 108<|
.m 8 109<|
.nil)
 .ret)))
def T3_2 (E : List (Nat × Blk)) (D : Den) (W : DrawFn) (a b c : BS) (σ : H) : Ans :=
 catK (BS.mk 39 1307818011897121422451922733390706347676985071784222021968392631138651534820383999223994261581) a fun t1 =>
 catK t1 c fun t2 =>
 catK t2 (BS.mk 24 983888085154580603510626121640460007450711282005888344105) fun t3 =>
 catK t3 a fun t4 =>
 catK t4 c fun t5 =>
 catK t5 (BS.mk 28 7193434253939231318197949102912637021307660997973063145023766276393) fun t6 =>
 callK (D 5 [.str t6] σ) fun u7 s8 =>
 rtTup u7 fun l9 =>
 rtCons l9 fun x10 l11 =>
 rtAgg x10 fun l12 =>
 xcS l12 fun x15 l14 =>
 xcI .i64 l14 fun x18 l17 =>
 rtCons l17 fun x19 l20 =>
 rtCons l20 fun x21 l22 =>
 rtCons l22 fun x23 l24 =>
 rtNil l24 (
 xcI .i64 l11 fun x27 l26 =>
 xcI .i64 l26 fun x30 l29 =>
 rtNil l29 (
 chk (allOne [.str x15, .int .i64 x18, x19, x21, x23]) (
 catK (BS.mk 53 6790579354708687386894014949640630785606080618502221152243543566899706465186766692755885520369579596523724409822006065997553741) b fun t31 =>
 catK t31 c fun t32 =>
 catK t32 (BS.mk 24 983888085154580603510626121640460007450711282005888338473) fun t33 =>
 catK t33 b fun t34 =>
 catK t34 c fun t35 =>
 catK t35 (BS.mk 29 276792900787349391086361123168721576447110417472758936656009265948969) fun t36 =>
 callK (D 6 [] s8) fun u37 s38 =>
 rtBool u37 fun x39 =>
 joinB (fun c40 s41 =>
 joinB (fun c43 s44 =>
 some ((V.bool c43), s44)) fun k45 =>
 condK c40 (
 callK (D 7 [.agg [.str x15, .int .i64 x18, x19, x21, x23]] s41) fun u46 s47 =>
 rtStr u46 fun x48 =>
 k45 (BS.beq x48 t36) s47) (
 k45 false s41)) fun k42 =>
 condK x39 (
 k42 (eqF x30 (Int.ofNat 0)) s38) (
 k42 false s38))))
def J3_2 (E : List (Nat × Blk)) (D : Den) (W : DrawFn) (N : Nat) := T3_2 E D W 
def J3_1 := T3_1 E D W (J3_2 E D W N )
def F3 (args : List V) (σ : H) : Ans :=
 xcI .i64 args fun x3 l2 =>
 xcI .i64 l2 fun x6 l5 =>
 xcI .i64 l5 fun x9 l8 =>
 xcB l8 fun x12 l11 =>
 rtNil l11 (
 T3_0 E D W (J3_1 E D W N ) x3 x6 x9 x12 σ)
def A3 : XFn := ⟨110, [.i, .i, .i, .bool], [(.tmp 8)], (C3_0 (C3_1 C3_2))⟩
theorem FE3 (args : List V) (σ : H) : runX E D W N A3 args σ = F3 E D W N args σ := by kernel_rfl

/-! ### F4: ogham_oghamhelp.Number -/
def C4_0 : XC := (.z (.c 2 y1<|
.nil)
 (.seq (.z (.m 3 0<|
.b 4 .lss .none (.t 3) (.i 0)<|
.nil)
 (.cond (.tmp 4) (.z (.m 5 0<|
.b 6 .add .none (.t 5) (.i 1)<|
.P 7 (.un .neg (.t 6))<|
.P 8 (.conv (.toInt .u64) (.t 7))<|
.b 9 .add .none (.t 8) (.con (V.int .u64 (Int.ofNat 1)))<|
.k 10 .str 8 [(.t 9)]<|
.b 11 .add .none (.con (V.str ⟨1, 45⟩)) (.t 10)<|
.m 2 11<|
.nil)
 .ret)
 .skip))
 (.z (.m 12 0<|
.P 13 (.conv (.toInt .u64) (.t 12))<|
.k 14 .str 8 [(.t 13)]<|
.m 2 14<|
.nil)
 .ret)))
def T4_0 (E : List (Nat × Blk)) (D : Den) (W : DrawFn) (a : Int) (σ : H) : Ans :=
 condK (ltF a (Int.ofNat 0)) (
 callK (D 8 [.int .u64 (addF .u64 (wrapF .u64 (negF .i64 (addF .i64 a (Int.ofNat 1)))) (Int.ofNat 1))] σ) fun u1 s2 =>
 rtStr u1 fun x3 =>
 catK (BS.mk 1 45) x3 fun t4 =>
 some ((V.str t4), s2)) (
 callK (D 8 [.int .u64 (wrapF .u64 a)] σ) fun u5 s6 =>
 rtStr u5 fun x7 =>
 some ((V.str x7), s6))
def F4 (N : Nat) (args : List V) (σ : H) : Ans :=
 xcI .i64 args fun x3 l2 =>
 rtNil l2 (
 T4_0 E D W x3 σ)
def A4 : XFn := ⟨15, [.i], [(.tmp 2)], C4_0⟩
theorem FE4 (args : List V) (σ : H) : runX E D W N A4 args σ = F4 E D W N args σ := by kernel_rfl

/-! ### F5: ogham_oghamref05.Parse -/
def q5a : List (Nat × XTy) := [(2, .ptr), (8, .ptr)]
def G5_0 : List AOper := [⟨(some 140), .build [(V.str ⟨0, 0⟩), (V.int .i64 (Int.ofNat 0)), V.nils, V.nils, V.nils] [], none⟩, ⟨(some 141), .mov (.tmp 8), none⟩, ⟨(some 142), .nilck (.tmp 141), none⟩, ⟨(some 143), .faddr 8 (.tmp 142), none⟩, ⟨(some 144), .load none (.tmp 143), none⟩, ⟨(some 145), .mov (.tmp 8), none⟩, ⟨(some 146), .nilck (.tmp 145), none⟩, ⟨(some 147), .faddr 7 (.tmp 146), none⟩, ⟨(some 148), .load none (.tmp 147), none⟩, ⟨none, .store 5 (.tmp 2) (.tmp 140), none⟩, ⟨(some 3), .mov (.tmp 144), none⟩, ⟨(some 4), .mov (.tmp 148), none⟩]
def H5_0 : List DP := [⟨0, []⟩, ⟨0, [8]⟩, ⟨2, [141]⟩, ⟨6, [142]⟩, ⟨14, [143]⟩, ⟨0, [8]⟩, ⟨32, [145]⟩, ⟨96, [146]⟩, ⟨224, [147]⟩, ⟨1, [2, 140]⟩, ⟨543, [144]⟩, ⟨2047, [148]⟩]
def Fin5 (E : List (Nat × Blk)) : St → Ans := fun s => resK E s [(.cell 2 (some 5)), (.tmp 3), (.tmp 4)] fun l => some (oneV l, s.σ)
def b5a (c0 : XC) : Nat → St → Ans := blkK 1 (dX E D W N (.keep q5a [] [] c0) (Fin5 E) nX (Fin5 E)) nX
def C5_0 (cc1 : XC) : XC := (.z (.p 2 [] (.alloc 28 [y1, y0, V.nils, V.nils, V.nils])<|
.q 3 0<|
.q 4 0<|
.nil)
 (.z (.m 13 0<|
.k 14 (.tup [.any, .i, .i]) 9 [(.t 13)]<|
.m 12 14<|
.P 15 (.extract 0 (.t 12))<|
.P 16 (.extract 1 (.t 12))<|
.P 17 (.extract 2 (.t 12))<|
.m 5 15<|
.m 6 16<|
.m 7 17<|
.nil)
 (.seq (.z (.m 18 7<|
.b 19 .neq .none (.t 18) (.i 0)<|
.nil)
 (.cond (.tmp 19) (.z (.op (some 20) y9 [] (.build [y1, y0, V.nils, V.nils, V.nils] [])<|
.m 21 6<|
.m 22 7<|
.op none y9 [2, 20] (.store 5 (.t 2) (.t 20))<|
.m 3 21<|
.m 4 22<|
.nil)
 .ret)
 .skip))
 (.z (.m 23 5<|
.op (some 24) (.agg [.any, .i, .str, .i, .any, .any, .any, .i, .i]) [23] (.build [V.nils, y0, y1, y0, V.nils, V.nils, V.nils, y0, y0] [(0, 1, (.t 23))])<|
.P 25 (.box 42 (.t 24))<|
.m 8 25<|
.nil)
 (.z (.m 26 8<|
.m 27 8<|
.k 28 .str 10 [(.t 27), (.i 1)]<|
.n 29 26<|
.f 30 2 29<|
.f 31 0 30<|
.w 1 31 28<|
.nil)
 (.z (.m 32 8<|
.k 33 y7 11 [(.t 32), (.con (V.str ⟨11, 100710650190388740279911748⟩))]<|
.nil)
 (.seq (.block 0 (.z (.m 35 8<|
.k 36 .bool 12 [(.t 35), y30]<|
.m 34 36<|
.nil)
 (.cond (.tmp 34) (.ops (.m 37 8<|
.k 38 y7 11 [(.t 37), y26]<|
.nil))
 (.z (.m 40 8<|
.k 41 .bool 12 [(.t 40), y31]<|
.m 39 41<|
.nil)
 (.cond (.tmp 39) (.z (.m 42 8<|
.n 43 42<|
.f 44 2 43<|
.f 45 1 44<|
.op none .any [45] (.store 1 (.t 45) (.i 1))<|
.nil)
 (.ops (.m 46 8<|
.k 47 y7 11 [(.t 46), y26]<|
.nil)))
 (.z (.m 49 8<|
.k 50 .bool 12 [(.t 49), (.con (V.str ⟨9, 1241215773001651606849⟩))]<|
.m 48 50<|
.nil)
 (.cond (.tmp 48) (.z (.m 51 8<|
.n 52 51<|
.f 53 2 52<|
.f 54 1 53<|
.op none .any [54] (.store 1 (.t 54) (.i 2))<|
.nil)
 (.ops (.m 55 8<|
.k 56 y7 11 [(.t 55), y26]<|
.nil)))
 .skip)))))))
 (.keep q5a [] [] cc1))))))))
def T5_0 (E : List (Nat × Blk)) (D : Den) (W : DrawFn) (K1 : Nat → Nat → Nat → Nat → H → Ans) (a : BS) (σ : H) : Ans :=
 let s1 := newB σ (.cells [.str ⟨0, 0⟩, .int .i64 (Int.ofNat 0), V.nils, V.nils, V.nils]);
 callK (D 9 [.str a] s1) fun u2 s3 =>
 rtTup u2 fun l4 =>
 rtCons l4 fun x5 l6 =>
 xcI .i64 l6 fun x9 l8 =>
 xcI .i64 l8 fun x12 l11 =>
 rtNil l11 (
 condK (not (eqF x12 (Int.ofNat 0))) (
 stK 5 (H.next σ) 0 (V.agg [.str (BS.mk 0 0), .int .i64 (Int.ofNat 0), V.nils, V.nils, V.nils]) s3 fun s13 =>
 ldnK E s13 (H.next σ) 0 5 fun u14 =>
 some ((V.tup [.agg u14, .int .i64 x9, .int .i64 x12]), s13)) (
 fillK [(0, 1, x5)] [V.nils, .int .i64 (Int.ofNat 0), .str ⟨0, 0⟩, .int .i64 (Int.ofNat 0), V.nils, V.nils, V.nils, .int .i64 (Int.ofNat 0), .int .i64 (Int.ofNat 0)] fun l15 =>
 rtCons l15 fun x16 l17 =>
 xcI .i64 l17 fun x20 l19 =>
 xcS l19 fun x23 l22 =>
 xcI .i64 l22 fun x26 l25 =>
 rtCons l25 fun x27 l28 =>
 rtCons l28 fun x29 l30 =>
 rtCons l30 fun x31 l32 =>
 xcI .i64 l32 fun x35 l34 =>
 xcI .i64 l34 fun x38 l37 =>
 rtNil l37 (
 nbK [x16, .int .i64 x20, .str x23, .int .i64 x26, x27, x29, x31, .int .i64 x35, .int .i64 x38] s3 fun s39 =>
 callK (D 10 [.ptr (H.next s3) 0, .int .i64 (Int.ofNat 1)] s39) fun u40 s41 =>
 rtStr u40 fun x42 =>
 stK 1 (H.next s3) 2 (V.str x42) s41 fun s43 =>
 callK (D 11 [.ptr (H.next s3) 0, .str (BS.mk 11 100710650190388740279911748)] s43) fun u44 s45 =>
 rtTup u44 fun l46 =>
 rtNil l46 (
 callK (D 12 [.ptr (H.next s3) 0, .str (BS.mk 8 6073459554577832005)] s45) fun u47 s48 =>
 rtBool u47 fun x49 =>
 condK x49 (
 callK (D 11 [.ptr (H.next s3) 0, .str (BS.mk 4 1397178708)] s48) fun u50 s51 =>
 rtTup u50 fun l52 =>
 rtNil l52 (
 K1 (H.next σ) 0 (H.next s3) 0 s51)) (
 callK (D 12 [.ptr (H.next s3) 0, .str (BS.mk 8 6073459554577829193)] s48) fun u53 s54 =>
 rtBool u53 fun x55 =>
 condK x55 (
 stK 1 (H.next s3) 3 (V.int .i64 (Int.ofNat 1)) s54 fun s56 =>
 callK (D 11 [.ptr (H.next s3) 0, .str (BS.mk 4 1397178708)] s56) fun u57 s58 =>
 rtTup u57 fun l59 =>
 rtNil l59 (
 K1 (H.next σ) 0 (H.next s3) 0 s58)) (
 callK (D 12 [.ptr (H.next s3) 0, .str (BS.mk 9 1241215773001651606849)] s54) fun u60 s61 =>
 rtBool u60 fun x62 =>
 condK x62 (
 stK 1 (H.next s3) 3 (V.int .i64 (Int.ofNat 2)) s61 fun s63 =>
 callK (D 11 [.ptr (H.next s3) 0, .str (BS.mk 4 1397178708)] s63) fun u64 s65 =>
 rtTup u64 fun l66 =>
 rtNil l66 (
 K1 (H.next σ) 0 (H.next s3) 0 s65)) (
 K1 (H.next σ) 0 (H.next s3) 0 s61)))))))
def C5_1 (cc2 : XC) (cc3 : XC) : XC := (.z (.m 57 8<|
.k 58 y7 11 [(.t 57), (.con (V.str ⟨3, 4012602⟩))]<|
.nil)
 (.z (.m 59 8<|
.k 60 y7 11 [(.t 59), (.con (V.str ⟨5, 336236856642⟩))]<|
.nil)
 (.seq (.block 1 (.loop q5a [] [] cc3))
 (.keep q5a [] [] cc2))))
def T5_1 (E : List (Nat × Blk)) (D : Den) (W : DrawFn) (K3 : Nat → Nat → Nat → Nat → H → Ans) (a b c d : Nat) (σ : H) : Ans :=
 callK (D 11 [.ptr c d, .str (BS.mk 3 4012602)] σ) fun u1 s2 =>
 rtTup u1 fun l3 =>
 rtNil l3 (
 callK (D 11 [.ptr c d, .str (BS.mk 5 336236856642)] s2) fun u4 s5 =>
 rtTup u4 fun l6 =>
 rtNil l6 (
 K3 a b c d s5))
def C5_2 (cc5 : XC) : XC := (.seq (.z (.m 120 8<|
.n 121 120<|
.f 122 7 121<|
.l 123 .i 122<|
.b 124 .eql .none (.t 123) (.i 0)<|
.m 125 124<|
.gA 125 true (.p 126 [8, 125] (.mov (.t 8))<|
.op (some 127) y4 [126, 125] (.call 13 [(.t 126)])<|
.op (some 128) .i [127, 125] (.field 0 none (.t 127))<|
.p 129 [128, 125] (.bin .neq .none (.t 128) (.i 0))<|
.nil) 130 125 129<|
.nil)
 (.cond (.tmp 130) (.ops (.m 131 8<|
.m 132 8<|
.k 133 y4 13 [(.t 132)]<|
.k 134 y7 14 [(.t 131), (.i 7), (.t 133)]<|
.nil))
 .skip))
 (.keep q5a [] [] cc5))
def T5_2 (E : List (Nat × Blk)) (D : Den) (W : DrawFn) (K5 : Nat → Nat → Nat → Nat → H → Ans) (a b c d : Nat) (σ : H) : Ans :=
 ldK E σ c (Nat.add d 7) fun u1 =>
 rtInt .i64 u1 fun x2 =>
 joinB (fun c3 s4 =>
 condK c3 (
 callK (D 13 [.ptr c d] s4) fun u6 s7 =>
 rtAgg u6 fun l8 =>
 xcI .i64 l8 fun x11 l10 =>
 xcS l10 fun x14 l13 =>
 xcI .i64 l13 fun x17 l16 =>
 rtNil l16 (
 callK (D 14 [.ptr c d, .int .i64 (Int.ofNat 7), .agg [.int .i64 x11, .str x14, .int .i64 x17]] s7) fun u18 s19 =>
 rtTup u18 fun l20 =>
 rtNil l20 (
 K5 a b c d s19))) (
 K5 a b c d s4)) fun k5 =>
 condK (eqF x2 (Int.ofNat 0)) (
 callK (D 13 [.ptr c d] σ) fun u21 s22 =>
 rtAgg u21 fun l23 =>
 xcI .i64 l23 fun x26 l25 =>
 xcS l25 fun x29 l28 =>
 xcI .i64 l28 fun x32 l31 =>
 rtNil l31 (
 k5 (not (eqF x26 (Int.ofNat 0))) s22)) (
 k5 false σ)
def C5_3 (cc4 : XC) : XC := (.seq (.z (.m 61 8<|
.n 62 61<|
.f 63 7 62<|
.l 64 .i 63<|
.b 65 .eql .none (.t 64) (.i 0)<|
.m 66 65<|
.gA 66 true (.p 67 [8, 66] (.mov (.t 8))<|
.op (some 68) .bool [67, 66] (.call 12 [(.t 67), (.con (V.str ⟨3, 4476485⟩))])<|
.p 69 [68, 66] (.un .not (.t 68))<|
.nil) 70 66 69<|
.nil)
 (.cond (.tmp 70) .skip
 (.exit 1)))
 (.block 2 (.z (.m 71 8<|
.k 72 y4 13 [(.t 71)]<|
.pal 9 [] 47 [y0, y1, y0]<|
.op none y4 [9, 72] (.store 3 (.t 9) (.t 72))<|
.nil)
 (.z (.m 73 8<|
.k 74 .str 10 [(.t 73), (.i 1)]<|
.m 10 74<|
.nil)
 (.seq (.z (.m 75 8<|
.n 76 75<|
.f 77 7 76<|
.l 78 .i 77<|
.b 79 .eql .none (.t 78) (.i 0)<|
.m 80 79<|
.gA 80 true (.p 81 [8, 80] (.mov (.t 8))<|
.p 82 [81, 80] (.nilck (.t 81))<|
.p 83 [82, 80] (.faddr 2 (.t 82))<|
.p 84 [83, 80] (.faddr 2 (.t 83))<|
.p 85 [84, 80] (.load none (.t 84))<|
.p 86 [85, 80] (.len false (.t 85))<|
.p 87 [86, 80] (.bin .geq .none (.t 86) (.i 40))<|
.nil) 88 80 87<|
.nil)
 (.cond (.tmp 88) (.ops (.m 89 8<|
.O 90 y4 (.load (some 3) (.t 9))<|
.k 91 y7 14 [(.t 89), (.i 5), (.t 90)]<|
.nil))
 .skip))
 (.keep [(2, .ptr), (8, .ptr), (10, .str)] [] [] cc4))))))
def T5_3 (E : List (Nat × Blk)) (D : Den) (W : DrawFn) (K2 : Nat → Nat → Nat → Nat → H → Ans) (K4 : Nat → Nat → Nat → Nat → BS → H → Ans) (a b c d : Nat) (σ : H) : Ans :=
 ldK E σ c (Nat.add d 7) fun u1 =>
 rtInt .i64 u1 fun x2 =>
 joinB (fun c3 s4 =>
 condK c3 (
 callK (D 13 [.ptr c d] s4) fun u6 s7 =>
 rtAgg u6 fun l8 =>
 xcI .i64 l8 fun x11 l10 =>
 xcS l10 fun x14 l13 =>
 xcI .i64 l13 fun x17 l16 =>
 rtNil l16 (
 callK (D 10 [.ptr c d, .int .i64 (Int.ofNat 1)] s7) fun u18 s19 =>
 rtStr u18 fun x20 =>
 ldK E s19 c (Nat.add d 7) fun u21 =>
 rtInt .i64 u21 fun x22 =>
 joinB (fun c23 s24 =>
 condK c23 (
 callK (D 14 [.ptr c d, .int .i64 (Int.ofNat 5), .agg [.int .i64 x11, .str x14, .int .i64 x17]] s24) fun u26 s27 =>
 rtTup u26 fun l28 =>
 rtNil l28 (
 K4 a b c d x20 s27)) (
 K4 a b c d x20 s24)) fun k25 =>
 condK (eqF x22 (Int.ofNat 0)) (
 ldK E s19 c (Nat.add (Nat.add d 2) 2) fun u29 =>
 slenK u29 fun n30 =>
 k25 (leF (Int.ofNat 40) (Int.ofNat n30)) s19) (
 k25 false s19))) (
 K2 a b c d s4)) fun k5 =>
 condK (eqF x2 (Int.ofNat 0)) (
 callK (D 12 [.ptr c d, .str (BS.mk 3 4476485)] σ) fun u31 s32 =>
 rtBool u31 fun x33 =>
 k5 (not x33) s32) (
 k5 false σ)
def C5_4 : XC := (.z (.m 92 8<|
.k 93 y7 11 [(.t 92), (.con (V.str ⟨3, 4012602⟩))]<|
.nil)
 (.z (.m 94 8<|
.k 95 .i 15 [(.t 94), (.i 0)]<|
.m 11 95<|
.nil)
 (.z (.m 96 8<|
.m 97 8<|
.n 98 97<|
.f 99 2 98<|
.f 100 2 99<|
.l 101 .any 100<|
.m 102 10<|
.p 103 [102] (.buildSlice 9 1 [y1] [(0, 1, (.t 102))])<|
.O 104 .one (.append 9 1 16 (.t 101) (.t 103))<|
.n 105 96<|
.f 106 2 105<|
.f 107 2 106<|
.w 1 107 104<|
.nil)
 (.ops (.m 108 8<|
.m 109 8<|
.n 110 109<|
.f 111 2 110<|
.f 112 3 111<|
.l 113 .any 112<|
.m 114 11<|
.p 115 [114] (.buildSlice 3 1 [y0] [(0, 1, (.t 114))])<|
.O 116 .one (.append 3 1 8 (.t 113) (.t 115))<|
.n 117 108<|
.f 118 2 117<|
.f 119 3 118<|
.w 1 119 116<|
.nil)))))
def T5_4 (E : List (Nat × Blk)) (D : Den) (W : DrawFn) (R3 : Nat → Nat → Nat → Nat → H → Ans) (a b c d : Nat) (e : BS) (σ : H) : Ans :=
 callK (D 11 [.ptr c d, .str (BS.mk 3 4012602)] σ) fun u1 s2 =>
 rtTup u1 fun l3 =>
 rtNil l3 (
 callK (D 15 [.ptr c d, .int .i64 (Int.ofNat 0)] s2) fun u4 s5 =>
 rtInt .i64 u4 fun x6 =>
 ldK E s5 c (Nat.add (Nat.add d 2) 2) fun u7 =>
 let s8 := newB s5 (.cells [.str e]);
 appK E 1 16 u7 (V.sl (H.next s5) 0 1 (.ex 1)) s8 fun u9 s10 =>
 rtOne u9 (
 stK 1 c (Nat.add (Nat.add d 2) 2) u9 s10 fun s11 =>
 ldK E s11 c (Nat.add (Nat.add d 2) 3) fun u12 =>
 let s13 := newB s11 (.cells [.int .i64 x6]);
 appK E 1 8 u12 (V.sl (H.next s11) 0 1 (.ex 1)) s13 fun u14 s15 =>
 rtOne u14 (
 stK 1 c (Nat.add (Nat.add d 2) 3) u14 s15 fun s16 =>
 R3 a b c d s16)))
def C5_5 : XC := (.seq (.z (.m 135 8<|
.n 136 135<|
.f 137 7 136<|
.l 138 .i 137<|
.b 139 .neq .none (.t 138) (.i 0)<|
.nil)
 (.cond (.tmp 139) (.seq (.keep q5a [] [] (.gdraw G5_0 H5_0 [(2, .ptr), (3, .i), (4, .i)]))
 .ret)
 .skip))
 (.z (.m 149 8<|
.n 150 149<|
.f 151 2 150<|
.O 152 y9 (.load (some 5) (.t 151))<|
.op none y9 [2, 152] (.store 5 (.t 2) (.t 152))<|
.q 3 0<|
.q 4 0<|
.nil)
 .ret))
def T5_5 (E : List (Nat × Blk)) (D : Den) (W : DrawFn) (a b c d : Nat) (σ : H) : Ans :=
 ldK E σ c (Nat.add d 7) fun u1 =>
 rtInt .i64 u1 fun x2 =>
 condK (not (eqF x2 (Int.ofNat 0))) (
 gdrawK (W G5_0 H5_0 [(2, .ptr a b), (8, .ptr c d)] σ) fun e3 s4 =>
 getL e3 2 fun u5 =>
 rtPtr u5 fun b6 o7 =>
 getL e3 3 fun u8 =>
 rtInt .i64 u8 fun x9 =>
 getL e3 4 fun u10 =>
 rtInt .i64 u10 fun x11 =>
 ldnK E s4 b6 o7 5 fun u12 =>
 some ((V.tup [.agg u12, .int .i64 x9, .int .i64 x11]), s4)) (
 ldnK E σ c (Nat.add d 2) 5 fun l13 =>
 xcS l13 fun x16 l15 =>
 xcI .i64 l15 fun x19 l18 =>
 rtCons l18 fun x20 l21 =>
 rtCons l21 fun x22 l23 =>
 rtCons l23 fun x24 l25 =>
 rtNil l25 (
 stK 5 a b (V.agg [.str x16, .int .i64 x19, x20, x22, x24]) σ fun s26 =>
 ldnK E s26 a b 5 fun u27 =>
 some ((V.tup [.agg u27, .int .i64 (Int.ofNat 0), .int .i64 (Int.ofNat 0)]), s26)))
def S5_0 (a : BS) (σ : H) : St := ⟨[(0, .str a)], [], [], σ⟩
def S5_1 (a b c d : Nat) (σ : H) : St := ⟨[(2, .ptr a b), (8, .ptr c d)], [], [], σ⟩
def S5_4 (a b c d : Nat) (e : BS) (σ : H) : St := ⟨[(2, .ptr a b), (8, .ptr c d), (10, .str e)], [], [], σ⟩
theorem P5_0 (cc1 : XC) (a : BS) (σ : H) :
  denC E D W N (C5_0 cc1) (S5_0 a σ) (Fin5 E) nX (Fin5 E) =
  T5_0 E D W (fun b c d e σ => denC E D W N cc1 (S5_1 b c d e σ) (Fin5 E) nX (Fin5 E)) a σ := by kernel_rfl
theorem P5_1 (cc2 : XC) (cc3 : XC) (a b c d : Nat) (σ : H) :
  denC E D W N (C5_1 cc2 cc3) (S5_1 a b c d σ) (Fin5 E) nX (Fin5 E) =
  T5_1 E D W (fun a b c d σ => iterK (fun rec s' => denC E D W N cc3 s' (kX q5a [] [] rec) (b5a E D W N cc2) (Fin5 E)) N (S5_1 a b c d σ)) a b c d σ := by kernel_rfl
theorem P5_2 (cc5 : XC) (a b c d : Nat) (σ : H) :
  denC E D W N (C5_2 cc5) (S5_1 a b c d σ) (Fin5 E) nX (Fin5 E) =
  T5_2 E D W (fun a b c d σ => denC E D W N cc5 (S5_1 a b c d σ) (Fin5 E) nX (Fin5 E)) a b c d σ := by kernel_rfl
theorem P5_3 (cc2 : XC) (cc4 : XC) (li3 : St → Ans) (a b c d : Nat) (σ : H) :
  denC E D W N (C5_3 cc4) (S5_1 a b c d σ) (kX q5a [] [] li3) (b5a E D W N cc2) (Fin5 E) =
  T5_3 E D W (fun a b c d σ => denC E D W N cc2 (S5_1 a b c d σ) (Fin5 E) nX (Fin5 E)) (fun a b c d e σ => denC E D W N cc4 (S5_4 a b c d e σ) (kX q5a [] [] li3) (blkK 2 (kX q5a [] [] li3) (b5a E D W N cc2)) (Fin5 E)) a b c d σ := by kernel_rfl
theorem P5_4 (cc2 : XC) (li3 : St → Ans) (a b c d : Nat) (e : BS) (σ : H) :
  denC E D W N (C5_4 ) (S5_4 a b c d e σ) (kX q5a [] [] li3) (blkK 2 (kX q5a [] [] li3) (b5a E D W N cc2)) (Fin5 E) =
  T5_4 E D W (fun a b c d σ => li3 (S5_1 a b c d σ)) a b c d e σ := by kernel_rfl
def J5_5 (E : List (Nat × Blk)) (D : Den) (W : DrawFn) (N : Nat) := T5_5 E D W 
theorem JE5_5 (a b c d : Nat) (σ : H) :
  denC E D W N C5_5 (S5_1 a b c d σ) (Fin5 E) nX (Fin5 E) = J5_5 E D W N a b c d σ := by kernel_rfl
def J5_2 := T5_2 E D W (J5_5 E D W N )
theorem JE5_2 (a b c d : Nat) (σ : H) :
  denC E D W N (C5_2 C5_5) (S5_1 a b c d σ) (Fin5 E) nX (Fin5 E) = J5_2 E D W N a b c d σ := by
  refine (P5_2 E D W N C5_5  a b c d σ).trans ?_
  simp only [JE5_5]
  kernel_rfl
def J5_4 (E : List (Nat × Blk)) (D : Den) (W : DrawFn) (N : Nat) (R3 : Nat → Nat → Nat → Nat → H → Ans) := T5_4 E D W R3
theorem JE5_4 (li3 : St → Ans) (a b c d : Nat) (e : BS) (σ : H) :
  denC E D W N C5_4 (S5_4 a b c d e σ) (kX q5a [] [] li3) (blkK 2 (kX q5a [] [] li3) (b5a E D W N (C5_2 C5_5))) (Fin5 E) = J5_4 E D W N (fun a b c d σ => li3 (S5_1 a b c d σ)) a b c d e σ := by
  refine (P5_4 E D W N (C5_2 C5_5) li3 a b c d e σ).trans ?_
  kernel_rfl
def L5_3 (n : Nat) : Nat → Nat → Nat → Nat → H → Ans :=
  Nat.rec (fun _ _ _ _ _ => none) (fun _ ih => T5_3 E D W (J5_2 E D W N ) (J5_4 E D W N ih)) n
theorem LE5_3 (n : Nat) : ∀ (a b c d : Nat) (σ : H),
  iterK (fun rec s' => denC E D W N (C5_3 C5_4) s' (kX q5a [] [] rec) (b5a E D W N (C5_2 C5_5)) (Fin5 E)) n (S5_1 a b c d σ) = L5_3 E D W N n a b c d σ := by
  induction n with
  | zero => intro a b c d σ; rfl
  | succ n ihn =>
    intro a b c d σ
    rw [iterK_succ]
    refine (P5_3 E D W N (C5_2 C5_5) C5_4 (iterK (fun rec s' => denC E D W N (C5_3 C5_4) s' (kX q5a [] [] rec) (b5a E D W N (C5_2 C5_5)) (Fin5 E)) n) a b c d σ).trans ?_
    simp only [ihn, JE5_2, JE5_4]
    kernel_rfl
def J5_1 := T5_1 E D W (L5_3 E D W N N)
theorem JE5_1 (a b c d : Nat) (σ : H) :
  denC E D W N (C5_1 (C5_2 C5_5) (C5_3 C5_4)) (S5_1 a b c d σ) (Fin5 E) nX (Fin5 E) = J5_1 E D W N a b c d σ := by
  refine (P5_1 E D W N (C5_2 C5_5) (C5_3 C5_4)  a b c d σ).trans ?_
  simp only [LE5_3]
  kernel_rfl
def J5_0 := T5_0 E D W (J5_1 E D W N )
theorem JE5_0 (a : BS) (σ : H) :
  denC E D W N (C5_0 (C5_1 (C5_2 C5_5) (C5_3 C5_4))) (S5_0 a σ) (Fin5 E) nX (Fin5 E) = J5_0 E D W N a σ := by
  refine (P5_0 E D W N (C5_1 (C5_2 C5_5) (C5_3 C5_4))  a σ).trans ?_
  simp only [JE5_1]
  kernel_rfl
def F5 (args : List V) (σ : H) : Ans :=
 xcS args fun x3 l2 =>
 rtNil l2 (
 J5_0 E D W N x3 σ)
def A5 : XFn := ⟨153, [.str], [(.cell 2 (some 5)), (.tmp 3), (.tmp 4)], (C5_0 (C5_1 (C5_2 C5_5) (C5_3 C5_4)))⟩
theorem FE5 (args : List V) (σ : H) : runX E D W N A5 args σ = F5 E D W N args σ := by
  unfold F5
  simp only [← JE5_0]
  kernel_rfl

/-! ### F7: ogham_print.Print -/
def q7a : List (Nat × XTy) := [(1, .ptr), (3, .ptr), (37, .any), (38, .i), (39, .i)]
def G7_0 : List AOper := [⟨(some 28), .mov (.tmp 3), none⟩, ⟨(some 29), .nilck (.tmp 28), none⟩, ⟨(some 30), .faddr 0 (.tmp 29), none⟩, ⟨(some 31), .faddr 0 (.tmp 1), none⟩, ⟨(some 32), .load none (.tmp 31), none⟩, ⟨(some 33), .mov (.tmp 4), none⟩, ⟨(some 34), .buildSlice 9 4 [(V.str ⟨0, 0⟩), (V.str ⟨0, 0⟩), (V.str ⟨0, 0⟩), (V.str ⟨0, 0⟩)] [(0, 1, (.tmp 32)), (1, 1, (.con (V.str ⟨13, 2561083126905198320505063818272⟩))), (2, 1, (.tmp 33)), (3, 1, (.con (V.str ⟨9, 1444126302987771263546⟩)))], none⟩, ⟨(some 35), .call 18 [(.tmp 30), (.tmp 34)], none⟩]
def H7_0 : List DP := [⟨0, [3]⟩, ⟨1, [28]⟩, ⟨3, [29]⟩, ⟨0, [1]⟩, ⟨8, [31]⟩, ⟨0, [4]⟩, ⟨56, [32, 33]⟩, ⟨127, [30, 34]⟩]
def Fin7 (E : List (Nat × Blk)) : St → Ans := fun s => resK E s [(.tmp 2)] fun l => some (oneV l, s.σ)
def b7a (c0 : XC) : Nat → St → Ans := blkK 0 (dX E D W N (.keep [(3, .ptr)] [] [] c0) (Fin7 E) nX (Fin7 E)) nX
def C7_0 (cc1 : XC) (cc2 : XC) : XC := (.z (.P 1 (.box 28 (.t 0))<|
.c 2 y1<|
.nil)
 (.z (.O 7 y9 (.load (some 5) (.t 1))<|
.op (some 8) (.agg [.any, .bool, .str, .i, .any, .any, .any]) [7] (.build [V.nils, y5, y1, y0, V.nils, V.nils, V.nils] [(2, 5, (.t 7))])<|
.P 9 (.box 57 (.t 8))<|
.m 3 9<|
.nil)
 (.z (.f 10 1 1<|
.l 11 .i 10<|
.k 12 .str 17 [(.t 11)]<|
.m 4 12<|
.nil)
 (.z (.m 13 3<|
.m 14 4<|
.b 15 .eql .none (.t 14) (.con y1)<|
.m 16 15<|
.gO 16 false (.p 17 [1, 16] (.faddr 3 (.t 1))<|
.p 18 [17, 16] (.load none (.t 17))<|
.p 19 [18, 16] (.len false (.t 18))<|
.p 20 [1, 16] (.faddr 2 (.t 1))<|
.p 21 [20, 16] (.load none (.t 20))<|
.p 22 [21, 16] (.len false (.t 21))<|
.p 23 [19, 22, 16] (.bin .neq .none (.t 19) (.t 22))<|
.nil) 24 16 23<|
.n 25 13<|
.f 26 0 25<|
.f 27 1 26<|
.w 1 27 24<|
.nil)
 (.seq (.keep [(1, .ptr), (3, .ptr), (4, .str)] [] [] (.gdraw G7_0 H7_0 [(1, .ptr), (3, .ptr)]))
 (.seq (.z (.f 36 2 1<|
.l 37 .any 36<|
.u 38 37<|
.q 39 0<|
.nil)
 (.block 0 (.loop q7a [] [] cc2)))
 (.keep [(3, .ptr)] [] [] cc1)))))))
def T7_0 (K2 : Nat → Nat → Nat → Nat → V → Int → Int → H → Ans) (a : BS) (b : Int) (c d e : V) (σ : H) : Ans :=
 nbK [.str a, .int .i64 b, c, d, e] σ fun s1 =>
 ldnK E s1 (H.next σ) 0 5 fun l2 =>
 xcS l2 fun x5 l4 =>
 xcI .i64 l4 fun x8 l7 =>
 rtCons l7 fun x9 l10 =>
 rtCons l10 fun x11 l12 =>
 rtCons l12 fun x13 l14 =>
 rtNil l14 (
 nbK [V.nils, .bool false, .str x5, .int .i64 x8, x9, x11, x13] s1 fun s15 =>
 ldK E s15 (H.next σ) 1 fun u16 =>
 rtInt .i64 u16 fun x17 =>
 callK (D 17 [.int .i64 x17] s15) fun u18 s19 =>
 rtStr u18 fun x20 =>
 joinB (fun c21 s22 =>
 stK 1 (H.next s1) 1 (V.bool c21) s22 fun s24 =>
 gdrawK (W G7_0 H7_0 [(1, .ptr (H.next σ) 0), (3, .ptr (H.next s1) 0), (4, .str x20)] s24) fun e25 s26 =>
 getL e25 1 fun u27 =>
 rtPtr u27 fun b28 o29 =>
 getL e25 3 fun u30 =>
 rtPtr u30 fun b31 o32 =>
 ldK E s26 b28 (Nat.add o29 2) fun u33 =>
 slenK u33 fun n34 =>
 K2 b28 o29 b31 o32 u33 (Int.ofNat n34) (Int.ofNat 0) s26) fun k23 =>
 condK (BS.beq x20 (BS.mk 0 0)) (
 k23 true s19) (
 ldK E s19 (H.next σ) 3 fun u35 =>
 slenK u35 fun n36 =>
 ldK E s19 (H.next σ) 2 fun u37 =>
 slenK u37 fun n38 =>
 k23 (not (eqF (Int.ofNat n36) (Int.ofNat n38))) s19))
def C7_1 : XC := (.z (.m 63 3<|
.n 64 63<|
.f 65 0 64<|
.p 66 [] (.buildSlice 9 1 [y1] [(0, 1, (.con (V.str ⟨5, 44095653130⟩)))])<|
.k 67 y7 18 [(.t 65), (.t 66)]<|
.nil)
 (.seq (.z (.m 68 3<|
.n 69 68<|
.f 70 0 69<|
.f 71 1 70<|
.l 72 .bool 71<|
.nil)
 (.cond (.tmp 72) (.z (.c 2 y1<|
.nil)
 .ret)
 .skip))
 (.z (.m 73 3<|
.n 74 73<|
.f 75 0 74<|
.f 76 0 75<|
.l 77 .any 76<|
.P 78 (.conv .toStr (.t 77))<|
.m 2 78<|
.nil)
 .ret)))
def T7_1 (E : List (Nat × Blk)) (D : Den) (W : DrawFn) (a b : Nat) (σ : H) : Ans :=
 let s1 := newB σ (.cells [.str (BS.mk 5 44095653130)]);
 callK (D 18 [.ptr a b, .sl (H.next σ) 0 1 (.ex 1)] s1) fun u2 s3 =>
 rtTup u2 fun l4 =>
 rtNil l4 (
 ldK E s3 a (Nat.add b 1) fun u5 =>
 rtBool u5 fun x6 =>
 condK x6 (
 some ((V.str (BS.mk 0 0)), s3)) (
 ldK E s3 a b fun u7 =>
 toStrK E s3 u7 fun t8 =>
 some ((V.str t8), s3)))
def C7_2 : XC := (.z (.b 40 .lss .none (.t 39) (.t 38)<|
.nil)
 (.seq (.cond (.tmp 40) .skip
 (.exit 0))
 (.seq (.block 1 (.z (.m 41 39<|
.s 42 1 37 39<|
.l 43 .str 42<|
.m 5 41<|
.m 6 43<|
.nil)
 (.seq (.z (.m 44 3<|
.n 45 44<|
.f 46 0 45<|
.f 47 1 46<|
.l 48 .bool 47<|
.nil)
 (.cond (.tmp 48) (.exit 0)
 .skip))
 (.z (.m 49 3<|
.n 50 49<|
.f 51 0 50<|
.m 52 6<|
.p 53 [52] (.buildSlice 9 3 [y1, y1, y1] [(0, 1, (.con (V.str ⟨1, 10⟩))), (1, 1, (.t 52)), (2, 1, (.con (V.str ⟨5, 138466179616⟩)))])<|
.k 54 y7 18 [(.t 51), (.t 53)]<|
.nil)
 (.ops (.m 55 3<|
.f 56 3 1<|
.l 57 .any 56<|
.m 58 5<|
.s 59 1 57 58<|
.l 60 .i 59<|
.k 61 y7 19 [(.t 55), (.t 60), (.i 0)]<|
.nil))))))
 (.ops (.b 62 .add .none (.t 39) (.i 1)<|
.m 39 62<|
.nil)))))
def T7_2 (E : List (Nat × Blk)) (D : Den) (W : DrawFn) (K1 : Nat → Nat → H → Ans) (R2 : Nat → Nat → Nat → Nat → V → Int → Int → H → Ans) (a b c d : Nat) (e : V) (f g : Int) (σ : H) : Ans :=
 condK (ltF g f) (
 iaddrSK 1 e g fun b1 o2 =>
 ldK E σ b1 o2 fun u3 =>
 rtStr u3 fun x4 =>
 ldK E σ c (Nat.add d 1) fun u5 =>
 rtBool u5 fun x6 =>
 condK x6 (
 K1 c d σ) (
 let s7 := newB σ (.cells [.str (BS.mk 1 10), .str x4, .str (BS.mk 5 138466179616)]);
 callK (D 18 [.ptr c d, .sl (H.next σ) 0 3 (.ex 3)] s7) fun u8 s9 =>
 rtTup u8 fun l10 =>
 rtNil l10 (
 ldK E s9 a (Nat.add b 3) fun u11 =>
 iaddrSK 1 u11 g fun b12 o13 =>
 ldK E s9 b12 o13 fun u14 =>
 rtInt .i64 u14 fun x15 =>
 callK (D 19 [.ptr c d, .int .i64 x15, .int .i64 (Int.ofNat 0)] s9) fun u16 s17 =>
 rtTup u16 fun l18 =>
 rtNil l18 (
 R2 a b c d e f (addF .i64 g (Int.ofNat 1)) s17)))) (
 K1 c d σ)
def S7_0 (a : BS) (b : Int) (c d e : V) (σ : H) : St := ⟨[(0, .agg [.str a, .int .i64 b, c, d, e])], [], [], σ⟩
def S7_1 (a b : Nat) (σ : H) : St := ⟨[(3, .ptr a b)], [], [], σ⟩
def S7_2 (a b c d : Nat) (e : V) (f g : Int) (σ : H) : St := ⟨[(1, .ptr a b), (3, .ptr c d), (37, e), (38, .int .i64 f), (39, .int .i64 g)], [], [], σ⟩
theorem P7_0 (cc1 : XC) (cc2 : XC) (a : BS) (b : Int) (c d e : V) (σ : H) :
  denC E D W N (C7_0 cc1 cc2) (S7_0 a b c d e σ) (Fin7 E) nX (Fin7 E) =
  T7_0 E D W (fun f g h i j k l σ => iterK (fun rec s' => denC E D W N cc2 s' (kX q7a [] [] rec) (b7a E D W N cc1) (Fin7 E)) N (S7_2 f g h i j k l σ)) a b c d e σ := by kernel_rfl
theorem P7_2 (cc1 : XC) (li2 : St → Ans) (a b c d : Nat) (e : V) (f g : Int) (σ : H) :
  denC E D W N (C7_2 ) (S7_2 a b c d e f g σ) (kX q7a [] [] li2) (b7a E D W N cc1) (Fin7 E) =
  T7_2 E D W (fun c d σ => denC E D W N cc1 (S7_1 c d σ) (Fin7 E) nX (Fin7 E)) (fun a b c d e f g σ => li2 (S7_2 a b c d e f g σ)) a b c d e f g σ := by kernel_rfl
def J7_1 (E : List (Nat × Blk)) (D : Den) (W : DrawFn) (N : Nat) := T7_1 E D W 
theorem JE7_1 (a b : Nat) (σ : H) :
  denC E D W N C7_1 (S7_1 a b σ) (Fin7 E) nX (Fin7 E) = J7_1 E D W N a b σ := by kernel_rfl
def L7_2 (n : Nat) : Nat → Nat → Nat → Nat → V → Int → Int → H → Ans :=
  Nat.rec (fun _ _ _ _ _ _ _ _ => none) (fun _ ih => T7_2 E D W (J7_1 E D W N ) ih) n
theorem LE7_2 (n : Nat) : ∀ (a b c d : Nat) (e : V) (f g : Int) (σ : H),
  iterK (fun rec s' => denC E D W N C7_2 s' (kX q7a [] [] rec) (b7a E D W N C7_1) (Fin7 E)) n (S7_2 a b c d e f g σ) = L7_2 E D W N n a b c d e f g σ := by
  induction n with
  | zero => intro a b c d e f g σ; rfl
  | succ n ihn =>
    intro a b c d e f g σ
    rw [iterK_succ]
    refine (P7_2 E D W N C7_1 (iterK (fun rec s' => denC E D W N C7_2 s' (kX q7a [] [] rec) (b7a E D W N C7_1) (Fin7 E)) n) a b c d e f g σ).trans ?_
    simp only [ihn, JE7_1]
    kernel_rfl
def J7_0 := T7_0 E D W (L7_2 E D W N N)
theorem JE7_0 (a : BS) (b : Int) (c d e : V) (σ : H) :
  denC E D W N (C7_0 C7_1 C7_2) (S7_0 a b c d e σ) (Fin7 E) nX (Fin7 E) = J7_0 E D W N a b c d e σ := by
  refine (P7_0 E D W N C7_1 C7_2  a b c d e σ).trans ?_
  simp only [LE7_2]
  kernel_rfl
def F7 (args : List V) (σ : H) : Ans :=
 rtCons args fun x1 l2 =>
 rtAgg x1 fun l3 =>
 xcS l3 fun x6 l5 =>
 xcI .i64 l5 fun x9 l8 =>
 rtCons l8 fun x10 l11 =>
 rtCons l11 fun x12 l13 =>
 rtCons l13 fun x14 l15 =>
 rtNil l15 (
 rtNil l2 (
 J7_0 E D W N x6 x9 x10 x12 x14 σ))
def A7 : XFn := ⟨79, [y9], [(.tmp 2)], (C7_0 C7_1 C7_2)⟩
theorem FE7 (args : List V) (σ : H) : runX E D W N A7 args σ = F7 E D W N args σ := by
  unfold F7
  simp only [← JE7_0]
  kernel_rfl

/-! ### F8: ogham_oghamhelp.Digits -/
def G8_0 : List AOper := [⟨(some 10), .mov (.tmp 0), none⟩, ⟨(some 11), .bin .quo .none (.tmp 10) (.con (V.int .u64 (Int.ofNat 10))), none⟩, ⟨(some 12), .call 8 [(.tmp 11)], none⟩, ⟨(some 13), .mov (.tmp 0), none⟩, ⟨(some 14), .bin .rem .none (.tmp 13) (.con (V.int .u64 (Int.ofNat 10))), none⟩, ⟨(some 15), .bin .add .none (.con (V.int .u64 (Int.ofNat 48))) (.tmp 14), none⟩, ⟨(some 16), .conv (.toInt .u8) (.tmp 15), none⟩, ⟨(some 17), .buildSlice 5 1 [(V.int .u8 (Int.ofNat 0))] [(0, 1, (.tmp 16))], none⟩, ⟨(some 18), .conv .toStr (.tmp 17), none⟩, ⟨(some 19), .bin .add .none (.tmp 12) (.tmp 18), none⟩, ⟨(some 2), .mov (.tmp 19), none⟩]
def H8_0 : List DP := [⟨0, [0]⟩, ⟨1, [10]⟩, ⟨3, [11]⟩, ⟨0, [0]⟩, ⟨8, [13]⟩, ⟨24, [14]⟩, ⟨56, [15]⟩, ⟨120, [16]⟩, ⟨248, [17]⟩, ⟨511, [12, 18]⟩, ⟨1023, [19]⟩]
def C8_0 : XC := (.z (.c 2 y1<|
.nil)
 (.seq (.z (.m 3 0<|
.b 4 .lss .none (.t 3) (.con (V.int .u64 (Int.ofNat 10)))<|
.nil)
 (.cond (.tmp 4) (.z (.m 5 0<|
.b 6 .add .none (.con (V.int .u64 (Int.ofNat 48))) (.t 5)<|
.P 7 (.conv (.toInt .u8) (.t 6))<|
.p 8 [7] (.buildSlice 5 1 [y6] [(0, 1, (.t 7))])<|
.P 9 (.conv .toStr (.t 8))<|
.m 2 9<|
.nil)
 .ret)
 .skip))
 (.seq (.keep [(0, (.int .u64))] [] [] (.gdraw G8_0 H8_0 [(2, .str)]))
 .ret)))
def T8_0 (E : List (Nat × Blk)) (D : Den) (W : DrawFn) (a : Int) (σ : H) : Ans :=
 condK (ltF a (Int.ofNat 10)) (
 let s1 := newB σ (.cells [.int .u8 (wrapF .u8 (addF .u64 (Int.ofNat 48) a))]);
 toStrK E s1 (V.sl (H.next σ) 0 1 (.ex 1)) fun t2 =>
 some ((V.str t2), s1)) (
 gdrawK (W G8_0 H8_0 [(0, .int .u64 a)] σ) fun e3 s4 =>
 getL e3 2 fun u5 =>
 rtStr u5 fun x6 =>
 some ((V.str x6), s4))
def F8 (N : Nat) (args : List V) (σ : H) : Ans :=
 xcI .u64 args fun x3 l2 =>
 rtNil l2 (
 T8_0 E D W x3 σ)
def A8 : XFn := ⟨20, [(.int .u64)], [(.tmp 2)], C8_0⟩
theorem FE8 (args : List V) (σ : H) : runX E D W N A8 args σ = F8 E D W N args σ := by kernel_rfl

/-! ### F9: ogham_oghamref04.Tokens -/
def q9a : List (Nat × XTy) := [(0, .str), (5, .any), (6, .i)]
def Fin9 (E : List (Nat × Blk)) : St → Ans := fun s => resK E s [(.tmp 2), (.tmp 3), (.tmp 4)] fun l => some (oneV l, s.σ)
def C9_0 (cc1 : XC) : XC := (.z (.c 2 V.nils<|
.q 3 0<|
.q 4 0<|
.nil)
 (.seq (.z (.m 9 0<|
.P 10 (.len true (.t 9))<|
.b 11 .gtr .none (.t 10) (.i 8000)<|
.nil)
 (.cond (.tmp 11) (.z (.c 2 V.nils<|
.q 3 0<|
.q 4 5<|
.nil)
 .ret)
 .skip))
 (.z (.c 5 V.nils<|
.nil)
 (.z (.q 6 0<|
.nil)
 (.block 0 (.loop q9a [] [] cc1))))))
def T9_0 (E : List (Nat × Blk)) (D : Den) (W : DrawFn) (K1 : BS → V → Int → H → Ans) (a : BS) (σ : H) : Ans :=
 condK (ltF (Int.ofNat 8000) (Int.ofNat (BS.len a))) (
 some ((V.tup [V.nils, .int .i64 (Int.ofNat 0), .int .i64 (Int.ofNat 5)]), σ)) (
 K1 a V.nils (Int.ofNat 0) σ)
def C9_1 : XC := (.block 1 (.z (.m 12 0<|
.m 13 6<|
.k 14 .i 20 [(.t 12), (.t 13)]<|
.m 6 14<|
.nil)
 (.seq (.z (.m 15 6<|
.m 16 0<|
.P 17 (.len true (.t 16))<|
.b 18 .geq .none (.t 15) (.t 17)<|
.nil)
 (.cond (.tmp 18) (.z (.m 19 5<|
.m 20 0<|
.P 21 (.len true (.t 20))<|
.op (some 22) y4 [21] (.build [y0, y1, y0] [(2, 1, (.t 21))])<|
.p 23 [22] (.buildSlice 47 1 [y0, y1, y0] [(0, 3, (.t 22))])<|
.O 24 .one (.append 47 3 32 (.t 19) (.t 23))<|
.m 2 24<|
.q 3 0<|
.q 4 0<|
.nil)
 .ret)
 .skip))
 (.z (.m 26 0<|
.m 27 6<|
.k 28 (.tup [y4, .i]) 21 [(.t 26), (.t 27)]<|
.m 25 28<|
.P 29 (.extract 0 (.t 25))<|
.P 30 (.extract 1 (.t 25))<|
.pal 7 [] 47 [y0, y1, y0]<|
.op none y4 [7, 29] (.store 3 (.t 7) (.t 29))<|
.m 8 30<|
.nil)
 (.seq (.z (.m 31 8<|
.b 32 .lss .none (.t 31) (.i 0)<|
.nil)
 (.cond (.tmp 32) (.z (.m 33 6<|
.c 2 V.nils<|
.m 3 33<|
.q 4 6<|
.nil)
 .ret)
 .skip))
 (.z (.m 34 5<|
.O 35 y4 (.load (some 3) (.t 7))<|
.p 36 [35] (.buildSlice 47 1 [y0, y1, y0] [(0, 3, (.t 35))])<|
.O 37 .one (.append 47 3 32 (.t 34) (.t 36))<|
.m 5 37<|
.nil)
 (.ops (.m 38 8<|
.m 6 38<|
.nil))))))))
def T9_1 (E : List (Nat × Blk)) (D : Den) (W : DrawFn) (R1 : BS → V → Int → H → Ans) (a : BS) (b : V) (c : Int) (σ : H) : Ans :=
 callK (D 20 [.str a, .int .i64 c] σ) fun u1 s2 =>
 rtInt .i64 u1 fun x3 =>
 condK (leF (Int.ofNat (BS.len a)) x3) (
 let s4 := newB s2 (.cells [.int .i64 (Int.ofNat 0), .str (BS.mk 0 0), .int .i64 (Int.ofNat (BS.len a))]);
 appK E 3 32 b (V.sl (H.next s2) 0 1 (.ex 1)) s4 fun u5 s6 =>
 rtOne u5 (
 some ((V.tup [u5, .int .i64 (Int.ofNat 0), .int .i64 (Int.ofNat 0)]), s6))) (
 callK (D 21 [.str a, .int .i64 x3] s2) fun u7 s8 =>
 rtTup u7 fun l9 =>
 rtCons l9 fun x10 l11 =>
 rtAgg x10 fun l12 =>
 xcI .i64 l12 fun x15 l14 =>
 xcS l14 fun x18 l17 =>
 xcI .i64 l17 fun x21 l20 =>
 rtNil l20 (
 xcI .i64 l11 fun x24 l23 =>
 rtNil l23 (
 condK (ltF x24 (Int.ofNat 0)) (
 some ((V.tup [V.nils, .int .i64 x3, .int .i64 (Int.ofNat 6)]), s8)) (
 let s25 := newB s8 (.cells [.int .i64 x15, .str x18, .int .i64 x21]);
 appK E 3 32 b (V.sl (H.next s8) 0 1 (.ex 1)) s25 fun u26 s27 =>
 rtOne u26 (
 R1 a u26 x24 s27)))))
def S9_0 (a : BS) (σ : H) : St := ⟨[(0, .str a)], [], [], σ⟩
def S9_1 (a : BS) (b : V) (c : Int) (σ : H) : St := ⟨[(0, .str a), (5, b), (6, .int .i64 c)], [], [], σ⟩
theorem P9_0 (cc1 : XC) (a : BS) (σ : H) :
  denC E D W N (C9_0 cc1) (S9_0 a σ) (Fin9 E) nX (Fin9 E) =
  T9_0 E D W (fun a b c σ => iterK (fun rec s' => denC E D W N cc1 s' (kX q9a [] [] rec) (blkK 0 (Fin9 E) nX) (Fin9 E)) N (S9_1 a b c σ)) a σ := by kernel_rfl
theorem P9_1 (li1 : St → Ans) (a : BS) (b : V) (c : Int) (σ : H) :
  denC E D W N (C9_1 ) (S9_1 a b c σ) (kX q9a [] [] li1) (blkK 0 (Fin9 E) nX) (Fin9 E) =
  T9_1 E D W (fun a b c σ => li1 (S9_1 a b c σ)) a b c σ := by kernel_rfl
def L9_1 (E : List (Nat × Blk)) (D : Den) (W : DrawFn) (N : Nat) (n : Nat) : BS → V → Int → H → Ans :=
  Nat.rec (fun _ _ _ _ => none) (fun _ ih => T9_1 E D W ih) n
theorem LE9_1 (n : Nat) : ∀ (a : BS) (b : V) (c : Int) (σ : H),
  iterK (fun rec s' => denC E D W N C9_1 s' (kX q9a [] [] rec) (blkK 0 (Fin9 E) nX) (Fin9 E)) n (S9_1 a b c σ) = L9_1 E D W N n a b c σ := by
  induction n with
  | zero => intro a b c σ; rfl
  | succ n ihn =>
    intro a b c σ
    rw [iterK_succ]
    refine (P9_1 E D W N  (iterK (fun rec s' => denC E D W N C9_1 s' (kX q9a [] [] rec) (blkK 0 (Fin9 E) nX) (Fin9 E)) n) a b c σ).trans ?_
    simp only [ihn]
    kernel_rfl
def J9_0 := T9_0 E D W (L9_1 E D W N N)
theorem JE9_0 (a : BS) (σ : H) :
  denC E D W N (C9_0 C9_1) (S9_0 a σ) (Fin9 E) nX (Fin9 E) = J9_0 E D W N a σ := by
  refine (P9_0 E D W N C9_1  a σ).trans ?_
  simp only [LE9_1]
  kernel_rfl
def F9 (args : List V) (σ : H) : Ans :=
 xcS args fun x3 l2 =>
 rtNil l2 (
 J9_0 E D W N x3 σ)
def A9 : XFn := ⟨39, [.str], [(.tmp 2), (.tmp 3), (.tmp 4)], (C9_0 C9_1)⟩
theorem FE9 (args : List V) (σ : H) : runX E D W N A9 args σ = F9 E D W N args σ := by
  unfold F9
  simp only [← JE9_0]
  kernel_rfl

/-! ### F10: __ogham_oghamref05.parser_.kind -/
def C10_0 : XC := (.z (.c 4 y1<|
.nil)
 (.z (.m 6 0<|
.k 7 y4 13 [(.t 6)]<|
.pal 5 [] 47 [y0, y1, y0]<|
.op none y4 [5, 7] (.store 3 (.t 5) (.t 7))<|
.nil)
 (.seq (.z (.m 8 0<|
.n 9 8<|
.f 10 7 9<|
.l 11 .i 10<|
.b 12 .neq .none (.t 11) (.i 0)<|
.m 13 12<|
.gO 13 false (.p 14 [5, 13] (.faddr 0 (.t 5))<|
.op (some 15) .i [14, 13] (.load none (.t 14))<|
.p 16 [1, 13] y13<|
.p 17 [15, 16, 13] (.bin .neq .none (.t 15) (.t 16))<|
.nil) 18 13 17<|
.nil)
 (.cond (.tmp 18) (.z (.m 19 0<|
.O 20 y4 (.load (some 3) (.t 5))<|
.k 21 y7 14 [(.t 19), (.i 7), (.t 20)]<|
.nil)
 (.z (.c 4 y1<|
.nil)
 .ret))
 .skip))
 (.z (.m 22 0<|
.k 23 y4 22 [(.t 22)]<|
.O 24 .str (.field 1 none (.t 23))<|
.m 4 24<|
.nil)
 .ret))))
def T10_0 (E : List (Nat × Blk)) (D : Den) (W : DrawFn) (a b : Nat) (c : Int) (σ : H) : Ans :=
 callK (D 13 [.ptr a b] σ) fun u1 s2 =>
 rtAgg u1 fun l3 =>
 xcI .i64 l3 fun x6 l5 =>
 xcS l5 fun x9 l8 =>
 xcI .i64 l8 fun x12 l11 =>
 rtNil l11 (
 ldK E s2 a (Nat.add b 7) fun u13 =>
 rtInt .i64 u13 fun x14 =>
 joinB (fun c15 s16 =>
 condK c15 (
 callK (D 14 [.ptr a b, .int .i64 (Int.ofNat 7), .agg [.int .i64 x6, .str x9, .int .i64 x12]] s16) fun u18 s19 =>
 rtTup u18 fun l20 =>
 rtNil l20 (
 some ((V.str (BS.mk 0 0)), s19))) (
 callK (D 22 [.ptr a b] s16) fun u21 s22 =>
 rtAgg u21 fun l23 =>
 xcI .i64 l23 fun x26 l25 =>
 xcS l25 fun x29 l28 =>
 xcI .i64 l28 fun x32 l31 =>
 rtNil l31 (
 some ((V.str x29), s22)))) fun k17 =>
 condK (not (eqF x14 (Int.ofNat 0))) (
 k17 true s2) (
 k17 (not (eqF x6 c)) s2))
def F10 (N : Nat) (args : List V) (σ : H) : Ans :=
 rtCons args fun x1 l2 =>
 rtPtr x1 fun b3 o4 =>
 xcI .i64 l2 fun x7 l6 =>
 rtNil l6 (
 T10_0 E D W b3 o4 x7 σ)
def A10 : XFn := ⟨25, [.ptr, .i], [(.tmp 4)], C10_0⟩
theorem FE10 (args : List V) (σ : H) : runX E D W N A10 args σ = F10 E D W N args σ := by kernel_rfl

/-! ### F11: __ogham_oghamref05.parser_.must -/
def C11_0 : XC := (.z (.m 4 0<|
.n 5 4<|
.f 6 7 5<|
.l 7 .i 6<|
.b 8 .eql .none (.t 7) (.i 0)<|
.m 9 8<|
.gA 9 true (.p 10 [0, 9] y10<|
.p 11 [1, 9] y13<|
.op (some 12) .bool [10, 11, 9] (.call 12 [(.t 10), (.t 11)])<|
.p 13 [12, 9] (.un .not (.t 12))<|
.nil) 14 9 13<|
.nil)
 (.cond (.tmp 14) (.ops (.m 15 0<|
.m 16 0<|
.k 17 y4 13 [(.t 16)]<|
.k 18 y7 14 [(.t 15), (.i 7), (.t 17)]<|
.nil))
 .skip))
def T11_0 (E : List (Nat × Blk)) (D : Den) (W : DrawFn) (a b : Nat) (c : BS) (σ : H) : Ans :=
 ldK E σ a (Nat.add b 7) fun u1 =>
 rtInt .i64 u1 fun x2 =>
 joinB (fun c3 s4 =>
 condK c3 (
 callK (D 13 [.ptr a b] s4) fun u6 s7 =>
 rtAgg u6 fun l8 =>
 xcI .i64 l8 fun x11 l10 =>
 xcS l10 fun x14 l13 =>
 xcI .i64 l13 fun x17 l16 =>
 rtNil l16 (
 callK (D 14 [.ptr a b, .int .i64 (Int.ofNat 7), .agg [.int .i64 x11, .str x14, .int .i64 x17]] s7) fun u18 s19 =>
 rtTup u18 fun l20 =>
 rtNil l20 (
 some ((V.tup []), s19)))) (
 some ((V.tup []), s4))) fun k5 =>
 condK (eqF x2 (Int.ofNat 0)) (
 callK (D 12 [.ptr a b, .str c] σ) fun u21 s22 =>
 rtBool u21 fun x23 =>
 k5 (not x23) s22) (
 k5 false σ)
def F11 (N : Nat) (args : List V) (σ : H) : Ans :=
 rtCons args fun x1 l2 =>
 rtPtr x1 fun b3 o4 =>
 xcS l2 fun x7 l6 =>
 rtNil l6 (
 T11_0 E D W b3 o4 x7 σ)
def A11 : XFn := ⟨19, [.ptr, .str], [], C11_0⟩
theorem FE11 (args : List V) (σ : H) : runX E D W N A11 args σ = F11 E D W N args σ := by kernel_rfl

/-! ### F12: __ogham_oghamref05.parser_.is -/
def C12_0 : XC := (.z (.c 4 y5<|
.nil)
 (.z (.m 6 0<|
.k 7 y4 13 [(.t 6)]<|
.pal 5 [] 47 [y0, y1, y0]<|
.op none y4 [5, 7] (.store 3 (.t 5) (.t 7))<|
.nil)
 (.seq (.z (.m 8 0<|
.n 9 8<|
.f 10 7 9<|
.l 11 .i 10<|
.b 12 .eql .none (.t 11) (.i 0)<|
.m 13 12<|
.gA 13 true (.p 14 [5, 13] (.faddr 0 (.t 5))<|
.op (some 15) .i [14, 13] (.load none (.t 14))<|
.p 16 [15, 13] (.bin .eql .none (.t 15) (.i 5))<|
.p 17 [16, 13] (.mov (.t 16))<|
.grp 17 false (.p 18 [5, 17] (.faddr 0 (.t 5))<|
.op (some 19) .i [18, 17] (.load none (.t 18))<|
.p 20 [19, 17] (.bin .eql .none (.t 19) (.i 6))<|
.nil) 21 [17, 20, 13] (.t 17) y12 (.t 20)<|
.nil) 22 13 21<|
.m 23 22<|
.gA 23 true (.p 24 [5, 23] (.faddr 1 (.t 5))<|
.op (some 25) .str [24, 23] (.load none (.t 24))<|
.p 26 [1, 23] y13<|
.p 27 [25, 26, 23] (.bin .eql .none (.t 25) (.t 26))<|
.nil) 28 23 27<|
.nil)
 (.cond (.tmp 28) (.z (.m 29 0<|
.k 30 y4 22 [(.t 29)]<|
.nil)
 (.z (.c 4 (V.bool true)<|
.nil)
 .ret))
 .skip))
 (.z (.c 4 y5<|
.nil)
 .ret))))
def T12_0 (E : List (Nat × Blk)) (D : Den) (W : DrawFn) (a b : Nat) (c : BS) (σ : H) : Ans :=
 callK (D 13 [.ptr a b] σ) fun u1 s2 =>
 rtAgg u1 fun l3 =>
 xcI .i64 l3 fun x6 l5 =>
 xcS l5 fun x9 l8 =>
 xcI .i64 l8 fun x12 l11 =>
 rtNil l11 (
 ldK E s2 a (Nat.add b 7) fun u13 =>
 rtInt .i64 u13 fun x14 =>
 joinB (fun c15 s16 =>
 joinB (fun c18 s19 =>
 condK c18 (
 callK (D 22 [.ptr a b] s19) fun u21 s22 =>
 rtAgg u21 fun l23 =>
 xcI .i64 l23 fun x26 l25 =>
 xcS l25 fun x29 l28 =>
 xcI .i64 l28 fun x32 l31 =>
 rtNil l31 (
 some ((V.bool true), s22))) (
 some ((V.bool false), s19))) fun k20 =>
 condK c15 (
 k20 (BS.beq x9 c) s16) (
 k20 false s16)) fun k17 =>
 condK (eqF x14 (Int.ofNat 0)) (
 joinB (fun c33 s34 =>
 k17 c33 s34) fun k35 =>
 condK (eqF x6 (Int.ofNat 5)) (
 k35 true s2) (
 k35 (eqF x6 (Int.ofNat 6)) s2)) (
 k17 false s2))
def F12 (N : Nat) (args : List V) (σ : H) : Ans :=
 rtCons args fun x1 l2 =>
 rtPtr x1 fun b3 o4 =>
 xcS l2 fun x7 l6 =>
 rtNil l6 (
 T12_0 E D W b3 o4 x7 σ)
def A12 : XFn := ⟨31, [.ptr, .str], [(.tmp 4)], C12_0⟩
theorem FE12 (args : List V) (σ : H) : runX E D W N A12 args σ = F12 E D W N args σ := by kernel_rfl

/-! ### F13: __ogham_oghamref05.parser_.now -/
def C13_0 : XC := (.z (.pal 2 [] 47 [y0, y1, y0]<|
.nil)
 (.seq (.draw (.m 3 0<|
.n 4 3<|
.f 5 0 4<|
.l 6 .any 5<|
.m 7 0<|
.n 8 7<|
.f 9 1 8<|
.l 10 .i 9<|
.s 11 3 6 10<|
.O 12 y4 (.load (some 3) (.t 11))<|
.op none y4 [2, 12] (.store 3 (.t 2) (.t 12))<|
.nil) [0, 1, 3, 7, 0, 16, 48, 112, 255, 511, 1023])
 .ret))
def T13_0 (E : List (Nat × Blk)) (D : Den) (W : DrawFn) (a b : Nat) (σ : H) : Ans :=
 ldK E σ a b fun u1 =>
 ldK E σ a (Nat.add b 1) fun u2 =>
 rtInt .i64 u2 fun x3 =>
 iaddrSK 3 u1 x3 fun b4 o5 =>
 ldnK E σ b4 o5 3 fun l6 =>
 xcI .i64 l6 fun x9 l8 =>
 xcS l8 fun x12 l11 =>
 xcI .i64 l11 fun x15 l14 =>
 rtNil l14 (
 some ((V.agg [.int .i64 x9, .str x12, .int .i64 x15]), σ))
def F13 (N : Nat) (args : List V) (σ : H) : Ans :=
 rtCons args fun x1 l2 =>
 rtPtr x1 fun b3 o4 =>
 rtNil l2 (
 T13_0 E D W b3 o4 σ)
def A13 : XFn := ⟨13, [.ptr], [(.cell 2 (some 3))], C13_0⟩
theorem FE13 (args : List V) (σ : H) : runX E D W N A13 args σ = F13 E D W N args σ := by kernel_rfl

/-! ### F14: __ogham_oghamref05.parser_.fail -/
def G14_0 : List AOper := [⟨(some 11), .mov (.tmp 0), none⟩, ⟨(some 12), .mov (.tmp 0), none⟩, ⟨(some 13), .mov (.tmp 1), none⟩, ⟨(some 14), .faddr 2 (.tmp 5), none⟩, ⟨(some 15), .load none (.tmp 14), none⟩, ⟨(some 16), .nilck (.tmp 11), none⟩, ⟨(some 17), .faddr 7 (.tmp 16), none⟩, ⟨none, .store 1 (.tmp 17) (.tmp 13), none⟩, ⟨(some 18), .nilck (.tmp 12), none⟩, ⟨(some 19), .faddr 8 (.tmp 18), none⟩, ⟨none, .store 1 (.tmp 19) (.tmp 15), none⟩]
def H14_0 : List DP := [⟨0, [0]⟩, ⟨0, [0]⟩, ⟨0, [1]⟩, ⟨0, [5]⟩, ⟨8, [14]⟩, ⟨5, [11]⟩, ⟨37, [16]⟩, ⟨101, [17, 13]⟩, ⟨255, [12]⟩, ⟨511, [18]⟩, ⟨1023, [19, 15]⟩]
def C14_0 : XC := (.z (.P 5 (.box 47 (.t 2))<|
.nil)
 (.z (.m 6 0<|
.n 7 6<|
.f 8 7 7<|
.l 9 .i 8<|
.b 10 .eql .none (.t 9) (.i 0)<|
.nil)
 (.cond (.tmp 10) (.keep [(0, .ptr), (1, .i), (5, .ptr)] [] [] (.gdraw G14_0 H14_0 []))
 .skip)))
def T14_0 (E : List (Nat × Blk)) (D : Den) (W : DrawFn) (a b : Nat) (c d : Int) (e : BS) (f : Int) (σ : H) : Ans :=
 nbK [.int .i64 d, .str e, .int .i64 f] σ fun s1 =>
 ldK E s1 a (Nat.add b 7) fun u2 =>
 rtInt .i64 u2 fun x3 =>
 condK (eqF x3 (Int.ofNat 0)) (
 gdrawK (W G14_0 H14_0 [(0, .ptr a b), (1, .int .i64 c), (5, .ptr (H.next σ) 0)] s1) fun e4 s5 =>
 some ((V.tup []), s5)) (
 some ((V.tup []), s1))
def F14 (N : Nat) (args : List V) (σ : H) : Ans :=
 rtCons args fun x1 l2 =>
 rtPtr x1 fun b3 o4 =>
 xcI .i64 l2 fun x7 l6 =>
 rtCons l6 fun x8 l9 =>
 rtAgg x8 fun l10 =>
 xcI .i64 l10 fun x13 l12 =>
 xcS l12 fun x16 l15 =>
 xcI .i64 l15 fun x19 l18 =>
 rtNil l18 (
 rtNil l9 (
 T14_0 E D W b3 o4 x7 x13 x16 x19 σ))
def A14 : XFn := ⟨20, [.ptr, .i, y4], [], C14_0⟩
theorem FE14 (args : List V) (σ : H) : runX E D W N A14 args σ = F14 E D W N args σ := by kernel_rfl

/-! ### F15: __ogham_oghamref05.parser_.typ -/
def q15a : List (Nat × XTy) := [(0, .ptr), (1, .i), (5, .i), (6, .ptr)]
def C15_0 (cc1 : XC) (cc2 : XC) : XC := (.z (.q 4 0<|
.nil)
 (.seq (.z (.m 9 0<|
.n 10 9<|
.f 11 7 10<|
.l 12 .i 11<|
.b 13 .neq .none (.t 12) (.i 0)<|
.nil)
 (.cond (.tmp 13) (.z (.q 4 0<|
.nil)
 .ret)
 .skip))
 (.seq (.z (.m 14 0<|
.k 15 y4 13 [(.t 14)]<|
.k 16 .bool 23 [(.t 15)]<|
.P 17 (.un .not (.t 16))<|
.nil)
 (.cond (.tmp 17) (.z (.m 18 0<|
.m 19 0<|
.k 20 y4 13 [(.t 19)]<|
.k 21 y7 14 [(.t 18), (.i 7), (.t 20)]<|
.nil)
 (.z (.q 4 0<|
.nil)
 .ret))
 .skip))
 (.seq (.z (.m 22 1<|
.b 23 .gtr .none (.t 22) (.i 16)<|
.m 24 23<|
.gO 24 false (.p 25 [0, 24] y10<|
.p 26 [25, 24] (.nilck (.t 25))<|
.p 27 [26, 24] (.faddr 2 (.t 26))<|
.p 28 [27, 24] (.faddr 4 (.t 27))<|
.p 29 [28, 24] (.load none (.t 28))<|
.p 30 [29, 24] (.len false (.t 29))<|
.p 31 [30, 24] (.bin .geq .none (.t 30) (.i 300))<|
.nil) 32 24 31<|
.nil)
 (.cond (.tmp 32) (.z (.m 33 0<|
.m 34 0<|
.k 35 y4 13 [(.t 34)]<|
.k 36 y7 14 [(.t 33), (.i 5), (.t 35)]<|
.nil)
 (.z (.q 4 0<|
.nil)
 .ret))
 .skip))
 (.z (.m 37 0<|
.n 38 37<|
.f 39 2 38<|
.f 40 4 39<|
.l 41 .any 40<|
.u 42 41<|
.m 5 42<|
.nil)
 (.z (.m 43 0<|
.m 44 0<|
.n 45 44<|
.f 46 2 45<|
.f 47 4 46<|
.l 48 .any 47<|
.op (some 49) y3 [] (.build [y0, y1, y5, y0, y0, y5, y5, y5, y5, y0, y0, V.nils, V.nils, y0, y5, y0] [])<|
.p 50 [49] (.buildSlice 71 1 [y0, y1, y5, y0, y0, y5, y5, y5, y5, y0, y0, V.nils, V.nils, y0, y5, y0] [(0, 16, (.t 49))])<|
.O 51 .one (.append 71 16 144 (.t 48) (.t 50))<|
.n 52 43<|
.f 53 2 52<|
.f 54 4 53<|
.w 1 54 51<|
.nil)
 (.z (.op (some 55) y3 [] (.build [y0, y1, y5, y0, y0, y5, y5, y5, y5, y0, y0, V.nils, V.nils, y0, y5, y0] [])<|
.p 6 [] (.alloc 71 [y0, y1, y5, y0, y0, y5, y5, y5, y5, y0, y0, V.nils, V.nils, y0, y5, y0])<|
.op none y3 [6, 55] (.store 16 (.t 6) (.t 55))<|
.nil)
 (.seq (.z (.m 56 0<|
.k 57 .bool 12 [(.t 56), (.con (V.str ⟨1, 91⟩))]<|
.nil)
 (.cond (.tmp 57) (.z (.m 58 0<|
.k 59 y4 13 [(.t 58)]<|
.pal 7 [] 47 [y0, y1, y0]<|
.op none y4 [7, 59] (.store 3 (.t 7) (.t 59))<|
.nil)
 (.z (.m 60 0<|
.k 61 .i 24 [(.t 60)]<|
.m 8 61<|
.nil)
 (.seq (.z (.m 62 0<|
.n 63 62<|
.f 64 7 63<|
.l 65 .i 64<|
.b 66 .eql .none (.t 65) (.i 0)<|
.m 67 66<|
.gA 67 true (.p 68 [8, 67] (.mov (.t 8))<|
.p 69 [68, 67] (.bin .lss .none (.t 68) (.i 0))<|
.p 70 [69, 67] (.mov (.t 69))<|
.grp 70 false (.p 71 [8, 70] (.mov (.t 8))<|
.p 72 [71, 70] (.bin .gtr .none (.t 71) (.i 268435456))<|
.nil) 73 [70, 72, 67] (.t 70) y12 (.t 72)<|
.nil) 74 67 73<|
.nil)
 (.cond (.tmp 74) (.ops (.m 75 0<|
.O 76 y4 (.load (some 3) (.t 7))<|
.k 77 y7 14 [(.t 75), (.i 12), (.t 76)]<|
.nil))
 .skip))
 (.keep [(0, .ptr), (1, .i), (5, .i), (6, .ptr), (8, .i)] [] [] cc2))))
 .skip))
 (.keep q15a [] [] cc1)))))))))
def T15_0 (E : List (Nat × Blk)) (D : Den) (W : DrawFn) (K1 : Nat → Nat → Int → Int → Nat → Nat → H → Ans) (K2 : Nat → Nat → Int → Int → Nat → Nat → Int → H → Ans) (a b : Nat) (c : Int) (σ : H) : Ans :=
 ldK E σ a (Nat.add b 7) fun u1 =>
 rtInt .i64 u1 fun x2 =>
 condK (not (eqF x2 (Int.ofNat 0))) (
 some ((V.int .i64 (Int.ofNat 0)), σ)) (
 callK (D 13 [.ptr a b] σ) fun u3 s4 =>
 rtAgg u3 fun l5 =>
 xcI .i64 l5 fun x8 l7 =>
 xcS l7 fun x11 l10 =>
 xcI .i64 l10 fun x14 l13 =>
 rtNil l13 (
 callK (D 23 [.agg [.int .i64 x8, .str x11, .int .i64 x14]] s4) fun u15 s16 =>
 rtBool u15 fun x17 =>
 condK (not x17) (
 callK (D 13 [.ptr a b] s16) fun u18 s19 =>
 rtAgg u18 fun l20 =>
 xcI .i64 l20 fun x23 l22 =>
 xcS l22 fun x26 l25 =>
 xcI .i64 l25 fun x29 l28 =>
 rtNil l28 (
 callK (D 14 [.ptr a b, .int .i64 (Int.ofNat 7), .agg [.int .i64 x23, .str x26, .int .i64 x29]] s19) fun u30 s31 =>
 rtTup u30 fun l32 =>
 rtNil l32 (
 some ((V.int .i64 (Int.ofNat 0)), s31)))) (
 joinB (fun c33 s34 =>
 condK c33 (
 callK (D 13 [.ptr a b] s34) fun u36 s37 =>
 rtAgg u36 fun l38 =>
 xcI .i64 l38 fun x41 l40 =>
 xcS l40 fun x44 l43 =>
 xcI .i64 l43 fun x47 l46 =>
 rtNil l46 (
 callK (D 14 [.ptr a b, .int .i64 (Int.ofNat 5), .agg [.int .i64 x41, .str x44, .int .i64 x47]] s37) fun u48 s49 =>
 rtTup u48 fun l50 =>
 rtNil l50 (
 some ((V.int .i64 (Int.ofNat 0)), s49)))) (
 ldK E s34 a (Nat.add (Nat.add b 2) 4) fun u51 =>
 slenK u51 fun n52 =>
 ldK E s34 a (Nat.add (Nat.add b 2) 4) fun u53 =>
 let s54 := newB s34 (.cells [.int .i64 (Int.ofNat 0), .str (BS.mk 0 0), .bool false, .int .i64 (Int.ofNat 0), .int .i64 (Int.ofNat 0), .bool false, .bool false, .bool false, .bool false, .int .i64 (Int.ofNat 0), .int .i64 (Int.ofNat 0), V.nils, V.nils, .int .i64 (Int.ofNat 0), .bool false, .int .i64 (Int.ofNat 0)]);
 appK E 16 144 u53 (V.sl (H.next s34) 0 1 (.ex 1)) s54 fun u55 s56 =>
 rtOne u55 (
 stK 1 a (Nat.add (Nat.add b 2) 4) u55 s56 fun s57 =>
 let s58 := newB s57 (.cells [.int .i64 (Int.ofNat 0), .str ⟨0, 0⟩, .bool false, .int .i64 (Int.ofNat 0), .int .i64 (Int.ofNat 0), .bool false, .bool false, .bool false, .bool false, .int .i64 (Int.ofNat 0), .int .i64 (Int.ofNat 0), V.nils, V.nils, .int .i64 (Int.ofNat 0), .bool false, .int .i64 (Int.ofNat 0)]);
 stK 16 (H.next s57) 0 (V.agg [.int .i64 (Int.ofNat 0), .str (BS.mk 0 0), .bool false, .int .i64 (Int.ofNat 0), .int .i64 (Int.ofNat 0), .bool false, .bool false, .bool false, .bool false, .int .i64 (Int.ofNat 0), .int .i64 (Int.ofNat 0), V.nils, V.nils, .int .i64 (Int.ofNat 0), .bool false, .int .i64 (Int.ofNat 0)]) s58 fun s59 =>
 callK (D 12 [.ptr a b, .str (BS.mk 1 91)] s59) fun u60 s61 =>
 rtBool u60 fun x62 =>
 condK x62 (
 callK (D 13 [.ptr a b] s61) fun u63 s64 =>
 rtAgg u63 fun l65 =>
 xcI .i64 l65 fun x68 l67 =>
 xcS l67 fun x71 l70 =>
 xcI .i64 l70 fun x74 l73 =>
 rtNil l73 (
 callK (D 24 [.ptr a b] s64) fun u75 s76 =>
 rtInt .i64 u75 fun x77 =>
 ldK E s76 a (Nat.add b 7) fun u78 =>
 rtInt .i64 u78 fun x79 =>
 joinB (fun c80 s81 =>
 condK c80 (
 callK (D 14 [.ptr a b, .int .i64 (Int.ofNat 12), .agg [.int .i64 x68, .str x71, .int .i64 x74]] s81) fun u83 s84 =>
 rtTup u83 fun l85 =>
 rtNil l85 (
 K2 a b c (Int.ofNat n52) (H.next s57) 0 x77 s84)) (
 K2 a b c (Int.ofNat n52) (H.next s57) 0 x77 s81)) fun k82 =>
 condK (eqF x79 (Int.ofNat 0)) (
 joinB (fun c86 s87 =>
 k82 c86 s87) fun k88 =>
 condK (ltF x77 (Int.ofNat 0)) (
 k88 true s76) (
 k88 (ltF (Int.ofNat 268435456) x77) s76)) (
 k82 false s76))) (
 K1 a b c (Int.ofNat n52) (H.next s57) 0 s61)))) fun k35 =>
 condK (ltF (Int.ofNat 16) c) (
 k35 true s16) (
 ldK E s16 a (Nat.add (Nat.add b 2) 4) fun u89 =>
 slenK u89 fun n90 =>
 k35 (leF (Int.ofNat 300) (Int.ofNat n90)) s16))))
def C15_1 : XC := (.z (.m 91 0<|
.m 92 1<|
.k 93 y7 25 [(.t 91), (.t 6), (.t 92)]<|
.nil)
 (.seq (.z (.m 94 0<|
.n 95 94<|
.f 96 7 95<|
.l 97 .i 96<|
.b 98 .neq .none (.t 97) (.i 0)<|
.nil)
 (.cond (.tmp 98) (.z (.q 4 0<|
.nil)
 .ret)
 .skip))
 (.seq (.draw (.m 99 0<|
.n 100 99<|
.f 101 2 100<|
.f 102 4 101<|
.l 103 .any 102<|
.m 104 5<|
.O 105 y3 (.load (some 16) (.t 6))<|
.s 106 16 103 104<|
.op none y3 [106, 105] (.store 16 (.t 106) (.t 105))<|
.nil) [0, 1, 3, 7, 15, 0, 0, 127, 255])
 (.z (.m 107 5<|
.m 4 107<|
.nil)
 .ret))))
def T15_1 (E : List (Nat × Blk)) (D : Den) (W : DrawFn) (a b : Nat) (c d : Int) (e f : Nat) (σ : H) : Ans :=
 callK (D 25 [.ptr a b, .ptr e f, .int .i64 c] σ) fun u1 s2 =>
 rtTup u1 fun l3 =>
 rtNil l3 (
 ldK E s2 a (Nat.add b 7) fun u4 =>
 rtInt .i64 u4 fun x5 =>
 condK (not (eqF x5 (Int.ofNat 0))) (
 some ((V.int .i64 (Int.ofNat 0)), s2)) (
 ldK E s2 a (Nat.add (Nat.add b 2) 4) fun u6 =>
 ldnK E s2 e f 16 fun l7 =>
 xcI .i64 l7 fun x10 l9 =>
 xcS l9 fun x13 l12 =>
 xcB l12 fun x16 l15 =>
 xcI .i64 l15 fun x19 l18 =>
 xcI .i64 l18 fun x22 l21 =>
 xcB l21 fun x25 l24 =>
 xcB l24 fun x28 l27 =>
 xcB l27 fun x31 l30 =>
 xcB l30 fun x34 l33 =>
 xcI .i64 l33 fun x37 l36 =>
 xcI .i64 l36 fun x40 l39 =>
 rtCons l39 fun x41 l42 =>
 rtCons l42 fun x43 l44 =>
 xcI .i64 l44 fun x47 l46 =>
 xcB l46 fun x50 l49 =>
 xcI .i64 l49 fun x53 l52 =>
 rtNil l52 (
 iaddrSK 16 u6 d fun b54 o55 =>
 stK 16 b54 o55 (V.agg [.int .i64 x10, .str x13, .bool x16, .int .i64 x19, .int .i64 x22, .bool x25, .bool x28, .bool x31, .bool x34, .int .i64 x37, .int .i64 x40, x41, x43, .int .i64 x47, .bool x50, .int .i64 x53]) s2 fun s56 =>
 some ((V.int .i64 d), s56))))
def C15_2 : XC := (.z (.m 78 0<|
.k 79 y7 11 [(.t 78), (.con (V.str ⟨1, 93⟩))]<|
.nil)
 (.z (.m 80 8<|
.op (some 81) (.agg [.bool, .i, .i]) [80] (.build [y5, y0, y0] [(0, 1, y12), (1, 1, (.t 80))])<|
.f 82 2 6<|
.op none (.agg [.bool, .i, .i]) [82, 81] (.store 3 (.t 82) (.t 81))<|
.nil)
 (.z (.m 83 0<|
.k 84 .bool 12 [(.t 83), y30]<|
.nil)
 (.cond (.tmp 84) (.ops (.f 85 2 6<|
.f 86 2 85<|
.op none .any [86] (.store 1 (.t 86) (.i 1))<|
.nil))
 (.z (.m 87 0<|
.k 88 .bool 12 [(.t 87), y31]<|
.nil)
 (.cond (.tmp 88) (.ops (.f 89 2 6<|
.f 90 2 89<|
.op none .any [90] (.store 1 (.t 90) (.i 2))<|
.nil))
 .skip))))))
def T15_2 (E : List (Nat × Blk)) (D : Den) (W : DrawFn) (K1 : Nat → Nat → Int → Int → Nat → Nat → H → Ans) (a b : Nat) (c d : Int) (e f : Nat) (g : Int) (σ : H) : Ans :=
 callK (D 11 [.ptr a b, .str (BS.mk 1 93)] σ) fun u1 s2 =>
 rtTup u1 fun l3 =>
 rtNil l3 (
 stK 3 e (Nat.add f 2) (V.agg [.bool true, .int .i64 g, .int .i64 (Int.ofNat 0)]) s2 fun s4 =>
 callK (D 12 [.ptr a b, .str (BS.mk 8 6073459554577832005)] s4) fun u5 s6 =>
 rtBool u5 fun x7 =>
 condK x7 (
 stK 1 e (Nat.add (Nat.add f 2) 2) (V.int .i64 (Int.ofNat 1)) s6 fun s8 =>
 K1 a b c d e f s8) (
 callK (D 12 [.ptr a b, .str (BS.mk 8 6073459554577829193)] s6) fun u9 s10 =>
 rtBool u9 fun x11 =>
 condK x11 (
 stK 1 e (Nat.add (Nat.add f 2) 2) (V.int .i64 (Int.ofNat 2)) s10 fun s12 =>
 K1 a b c d e f s12) (
 K1 a b c d e f s10)))
def J15_1 (E : List (Nat × Blk)) (D : Den) (W : DrawFn) (N : Nat) := T15_1 E D W 
def J15_2 := T15_2 E D W (J15_1 E D W N )
def F15 (args : List V) (σ : H) : Ans :=
 rtCons args fun x1 l2 =>
 rtPtr x1 fun b3 o4 =>
 xcI .i64 l2 fun x7 l6 =>
 rtNil l6 (
 T15_0 E D W (J15_1 E D W N ) (J15_2 E D W N ) b3 o4 x7 σ)
def A15 : XFn := ⟨108, [.ptr, .i], [(.tmp 4)], (C15_0 C15_1 C15_2)⟩
theorem FE15 (args : List V) (σ : H) : runX E D W N A15 args σ = F15 E D W N args σ := by kernel_rfl

/-! ### F17: ogham_print.tagging -/
def C17_0 : XC := (.z (.c 2 y1<|
.nil)
 (.seq (.z (.m 3 0<|
.nil)
 (.block 0 (.z (.b 5 .eql .none (.t 3) (.i 0)<|
.m 4 5<|
.nil)
 (.cond (.tmp 4) (.z (.c 2 (V.str ⟨14, 655635097218688137868315485820997⟩)<|
.nil)
 .ret)
 (.z (.b 7 .eql .none (.t 3) (.i 1)<|
.m 6 7<|
.nil)
 (.cond (.tmp 6) (.z (.c 2 (V.str ⟨14, 655635097218688137868315485818185⟩)<|
.nil)
 .ret)
 (.z (.b 9 .eql .none (.t 3) (.i 2)<|
.m 8 9<|
.nil)
 (.cond (.tmp 8) (.z (.c 2 (V.str ⟨15, 167842584887983849704415794096788801⟩)<|
.nil)
 .ret)
 .skip))))))))
 (.z (.c 2 y1<|
.nil)
 .ret)))
def T17_0 (E : List (Nat × Blk)) (D : Den) (W : DrawFn) (a : Int) (σ : H) : Ans :=
 condK (eqF a (Int.ofNat 0)) (
 some ((V.str (BS.mk 14 655635097218688137868315485820997)), σ)) (
 condK (eqF a (Int.ofNat 1)) (
 some ((V.str (BS.mk 14 655635097218688137868315485818185)), σ)) (
 condK (eqF a (Int.ofNat 2)) (
 some ((V.str (BS.mk 15 167842584887983849704415794096788801)), σ)) (
 some ((V.str (BS.mk 0 0)), σ))))
def F17 (N : Nat) (args : List V) (σ : H) : Ans :=
 xcI .i64 args fun x3 l2 =>
 rtNil l2 (
 T17_0 E D W x3 σ)
def A17 : XFn := ⟨10, [.i], [(.tmp 2)], C17_0⟩
theorem FE17 (args : List V) (σ : H) : runX E D W N A17 args σ = F17 E D W N args σ := by kernel_rfl

/-! ### F18: __ogham_print.writer_.put -/
def q18a : List (Nat × XTy) := [(0, .ptr), (6, .any), (7, .i), (8, .i)]
def Fin18 (E : List (Nat × Blk)) : St → Ans := fun s => resK E s [] fun l => some (oneV l, s.σ)
def b18a (c0 : XC) : Nat → St → Ans := blkK 0 (dX E D W N (.keep [(0, .ptr)] [] [] c0) (Fin18 E) nX (Fin18 E)) nX
def C18_0 (cc1 : XC) (cc2 : XC) : XC := (.seq (.z (.m 6 1<|
.u 7 6<|
.q 8 0<|
.nil)
 (.block 0 (.loop q18a [] [] cc2)))
 (.keep [(0, .ptr)] [] [] cc1))
def T18_0 (E : List (Nat × Blk)) (D : Den) (W : DrawFn) (K2 : Nat → Nat → V → Int → Int → H → Ans) (a b : Nat) (c : V) (σ : H) : Ans :=
 slenK c fun n1 =>
 K2 a b c (Int.ofNat n1) (Int.ofNat 0) σ
def C18_1 : XC := (.ops (.m 22 0<|
.m 23 0<|
.n 24 23<|
.f 25 1 24<|
.l 26 .bool 25<|
.m 27 26<|
.gO 27 false (.p 28 [0, 27] y10<|
.p 29 [28, 27] (.nilck (.t 28))<|
.p 30 [29, 27] (.faddr 0 (.t 29))<|
.p 31 [30, 27] (.load none (.t 30))<|
.p 32 [31, 27] (.len false (.t 31))<|
.p 33 [32, 27] (.bin .gtr .none (.t 32) (.i 32000))<|
.nil) 34 27 33<|
.n 35 22<|
.f 36 1 35<|
.w 1 36 34<|
.nil))
def T18_1 (E : List (Nat × Blk)) (D : Den) (W : DrawFn) (a b : Nat) (σ : H) : Ans :=
 ldK E σ a (Nat.add b 1) fun u1 =>
 rtBool u1 fun x2 =>
 joinB (fun c3 s4 =>
 stK 1 a (Nat.add b 1) (V.bool c3) s4 fun s6 =>
 some ((V.tup []), s6)) fun k5 =>
 condK x2 (
 k5 true σ) (
 ldK E σ a b fun u7 =>
 slenK u7 fun n8 =>
 k5 (ltF (Int.ofNat 32000) (Int.ofNat n8)) σ)
def C18_2 : XC := (.z (.b 9 .lss .none (.t 8) (.t 7)<|
.nil)
 (.seq (.cond (.tmp 9) .skip
 (.exit 0))
 (.seq (.block 1 (.z (.s 10 1 6 8<|
.l 11 .str 10<|
.m 5 11<|
.nil)
 (.ops (.m 12 0<|
.m 13 0<|
.n 14 13<|
.f 15 0 14<|
.l 16 .any 15<|
.m 17 5<|
.O 18 .one (.append 5 1 1 (.t 16) (.t 17))<|
.n 19 12<|
.f 20 0 19<|
.w 1 20 18<|
.nil))))
 (.ops (.b 21 .add .none (.t 8) (.i 1)<|
.m 8 21<|
.nil)))))
def T18_2 (E : List (Nat × Blk)) (D : Den) (W : DrawFn) (K1 : Nat → Nat → H → Ans) (R2 : Nat → Nat → V → Int → Int → H → Ans) (a b : Nat) (c : V) (d e : Int) (σ : H) : Ans :=
 condK (ltF e d) (
 iaddrSK 1 c e fun b1 o2 =>
 ldK E σ b1 o2 fun u3 =>
 rtStr u3 fun x4 =>
 ldK E σ a b fun u5 =>
 appK E 1 1 u5 (V.str x4) σ fun u6 s7 =>
 rtOne u6 (
 stK 1 a b u6 s7 fun s8 =>
 R2 a b c d (addF .i64 e (Int.ofNat 1)) s8)) (
 K1 a b σ)
def S18_0 (a b : Nat) (c : V) (σ : H) : St := ⟨[(0, .ptr a b), (1, c)], [], [], σ⟩
def S18_1 (a b : Nat) (σ : H) : St := ⟨[(0, .ptr a b)], [], [], σ⟩
def S18_2 (a b : Nat) (c : V) (d e : Int) (σ : H) : St := ⟨[(0, .ptr a b), (6, c), (7, .int .i64 d), (8, .int .i64 e)], [], [], σ⟩
theorem P18_0 (cc1 : XC) (cc2 : XC) (a b : Nat) (c : V) (σ : H) :
  denC E D W N (C18_0 cc1 cc2) (S18_0 a b c σ) (Fin18 E) nX (Fin18 E) =
  T18_0 E D W (fun a b d e f σ => iterK (fun rec s' => denC E D W N cc2 s' (kX q18a [] [] rec) (b18a E D W N cc1) (Fin18 E)) N (S18_2 a b d e f σ)) a b c σ := by kernel_rfl
theorem P18_2 (cc1 : XC) (li2 : St → Ans) (a b : Nat) (c : V) (d e : Int) (σ : H) :
  denC E D W N (C18_2 ) (S18_2 a b c d e σ) (kX q18a [] [] li2) (b18a E D W N cc1) (Fin18 E) =
  T18_2 E D W (fun a b σ => denC E D W N cc1 (S18_1 a b σ) (Fin18 E) nX (Fin18 E)) (fun a b c d e σ => li2 (S18_2 a b c d e σ)) a b c d e σ := by kernel_rfl
def J18_1 (E : List (Nat × Blk)) (D : Den) (W : DrawFn) (N : Nat) := T18_1 E D W 
theorem JE18_1 (a b : Nat) (σ : H) :
  denC E D W N C18_1 (S18_1 a b σ) (Fin18 E) nX (Fin18 E) = J18_1 E D W N a b σ := by kernel_rfl
def L18_2 (n : Nat) : Nat → Nat → V → Int → Int → H → Ans :=
  Nat.rec (fun _ _ _ _ _ _ => none) (fun _ ih => T18_2 E D W (J18_1 E D W N ) ih) n
theorem LE18_2 (n : Nat) : ∀ (a b : Nat) (c : V) (d e : Int) (σ : H),
  iterK (fun rec s' => denC E D W N C18_2 s' (kX q18a [] [] rec) (b18a E D W N C18_1) (Fin18 E)) n (S18_2 a b c d e σ) = L18_2 E D W N n a b c d e σ := by
  induction n with
  | zero => intro a b c d e σ; rfl
  | succ n ihn =>
    intro a b c d e σ
    rw [iterK_succ]
    refine (P18_2 E D W N C18_1 (iterK (fun rec s' => denC E D W N C18_2 s' (kX q18a [] [] rec) (b18a E D W N C18_1) (Fin18 E)) n) a b c d e σ).trans ?_
    simp only [ihn, JE18_1]
    kernel_rfl
def J18_0 := T18_0 E D W (L18_2 E D W N N)
theorem JE18_0 (a b : Nat) (c : V) (σ : H) :
  denC E D W N (C18_0 C18_1 C18_2) (S18_0 a b c σ) (Fin18 E) nX (Fin18 E) = J18_0 E D W N a b c σ := by
  refine (P18_0 E D W N C18_1 C18_2  a b c σ).trans ?_
  simp only [LE18_2]
  kernel_rfl
def F18 (args : List V) (σ : H) : Ans :=
 rtCons args fun x1 l2 =>
 rtPtr x1 fun b3 o4 =>
 rtCons l2 fun x5 l6 =>
 rtNil l6 (
 J18_0 E D W N b3 o4 x5 σ)
def A18 : XFn := ⟨37, [.ptr, .any], [], (C18_0 C18_1 C18_2)⟩
theorem FE18 (args : List V) (σ : H) : runX E D W N A18 args σ = F18 E D W N args σ := by
  unfold F18
  simp only [← JE18_0]
  kernel_rfl

/-! ### F19: __ogham_print.printer_.node -/
def G19_0 : List AOper := [⟨(some 142), .mov (.tmp 0), none⟩, ⟨(some 143), .nilck (.tmp 142), none⟩, ⟨(some 144), .faddr 0 (.tmp 143), none⟩, ⟨(some 145), .faddr 1 (.tmp 6), none⟩, ⟨(some 146), .load none (.tmp 145), none⟩, ⟨(some 147), .buildSlice 9 1 [(V.str ⟨0, 0⟩)] [(0, 1, (.tmp 146))], none⟩, ⟨(some 148), .call 18 [(.tmp 144), (.tmp 147)], none⟩]
def H19_0 : List DP := [⟨0, [0]⟩, ⟨1, [142]⟩, ⟨3, [143]⟩, ⟨0, [6]⟩, ⟨8, [145]⟩, ⟨24, [146]⟩, ⟨63, [144, 147]⟩]
def C19_0 : XC := (.seq (.z (.m 7 0<|
.n 8 7<|
.f 9 0 8<|
.f 10 1 9<|
.l 11 .bool 10<|
.m 12 11<|
.gO 12 false (.p 13 [1, 12] y13<|
.p 14 [13, 12] (.bin .lss .none (.t 13) (.i 0))<|
.nil) 15 12 14<|
.m 16 15<|
.gO 16 false (.p 17 [1, 16] y13<|
.p 18 [0, 16] y10<|
.p 19 [18, 16] (.nilck (.t 18))<|
.p 20 [19, 16] (.faddr 2 (.t 19))<|
.p 21 [20, 16] (.faddr 4 (.t 20))<|
.p 22 [21, 16] (.load none (.t 21))<|
.p 23 [22, 16] (.len false (.t 22))<|
.p 24 [17, 23, 16] (.bin .geq .none (.t 17) (.t 23))<|
.nil) 25 16 24<|
.nil)
 (.cond (.tmp 25) (.z (.m 26 0<|
.n 27 26<|
.f 28 0 27<|
.f 29 1 28<|
.op none .any [29] (.store 1 (.t 29) y12)<|
.nil)
 .ret)
 .skip))
 (.z (.m 30 0<|
.n 31 30<|
.f 32 2 31<|
.f 33 4 32<|
.l 34 .any 33<|
.m 35 1<|
.s 36 16 34 35<|
.O 37 y3 (.load (some 16) (.t 36))<|
.p 6 [] (.alloc 71 [y0, y1, y5, y0, y0, y5, y5, y5, y5, y0, y0, V.nils, V.nils, y0, y5, y0])<|
.op none y3 [6, 37] (.store 16 (.t 6) (.t 37))<|
.nil)
 (.z (.m 38 0<|
.f 39 2 6<|
.O 40 (.agg [.bool, .i, .i]) (.load (some 3) (.t 39))<|
.k 41 y7 31 [(.t 38), (.t 40)]<|
.nil)
 (.z (.f 42 0 6<|
.l 43 .i 42<|
.nil)
 (.block 0 (.z (.b 49 .eql .none (.t 43) (.i 1)<|
.m 48 49<|
.nil)
 (.cond (.tmp 48) (.ops (.m 50 0<|
.n 51 50<|
.f 52 0 51<|
.p 53 [] (.buildSlice 9 1 [y1] [(0, 1, y20)])<|
.k 54 y7 18 [(.t 52), (.t 53)]<|
.nil))
 (.z (.b 56 .eql .none (.t 43) (.i 4)<|
.m 55 56<|
.nil)
 (.cond (.tmp 55) (.ops (.m 57 0<|
.n 58 57<|
.f 59 0 58<|
.p 60 [] (.buildSlice 9 1 [y1] [(0, 1, y27)])<|
.k 61 y7 18 [(.t 59), (.t 60)]<|
.nil))
 (.z (.b 63 .eql .none (.t 43) (.i 2)<|
.m 62 63<|
.nil)
 (.cond (.tmp 62) (.z (.m 64 0<|
.n 65 64<|
.f 66 0 65<|
.p 67 [] (.buildSlice 9 1 [y1] [(0, 1, y21)])<|
.k 68 y7 18 [(.t 66), (.t 67)]<|
.nil)
 (.ops (.m 69 0<|
.f 70 5 6<|
.O 71 y2 (.load (some 6) (.t 70))<|
.k 72 y7 32 [(.t 69), (.t 71), (.con (V.str ⟨2, 10272⟩)), y29]<|
.nil)))
 (.z (.b 74 .eql .none (.t 43) (.i 5)<|
.m 73 74<|
.nil)
 (.cond (.tmp 73) (.z (.m 75 0<|
.n 76 75<|
.f 77 0 76<|
.p 78 [] (.buildSlice 9 1 [y1] [(0, 1, (.con (V.str ⟨12, 22068078162707940351935791951⟩)))])<|
.k 79 y7 18 [(.t 77), (.t 78)]<|
.nil)
 (.ops (.m 80 0<|
.f 81 5 6<|
.O 82 y2 (.load (some 6) (.t 81))<|
.k 83 y7 32 [(.t 80), (.t 82), (.con (V.str ⟨8, 2891387214851418144⟩)), (.con (V.str ⟨2, 10537⟩))]<|
.nil)))
 (.z (.b 85 .eql .none (.t 43) (.i 6)<|
.m 84 85<|
.nil)
 (.cond (.tmp 84) (.z (.m 86 0<|
.n 87 86<|
.f 88 0 87<|
.p 89 [] (.buildSlice 9 1 [y1] [(0, 1, y16)])<|
.k 90 y7 18 [(.t 88), (.t 89)]<|
.nil)
 (.ops (.m 91 0<|
.f 92 5 6<|
.O 93 y2 (.load (some 6) (.t 92))<|
.k 94 y7 32 [(.t 91), (.t 93), (.con (V.str ⟨8, 2891387214851418144⟩)), (.con (V.str ⟨2, 10537⟩))]<|
.nil)))
 (.z (.b 96 .eql .none (.t 43) (.i 3)<|
.m 95 96<|
.nil)
 (.cond (.tmp 95) (.ops (.m 97 0<|
.O 98 y3 (.load (some 16) (.t 6))<|
.k 99 y7 33 [(.t 97), (.t 98)]<|
.nil))
 (.z (.b 101 .eql .none (.t 43) (.i 7)<|
.m 100 101<|
.nil)
 (.cond (.tmp 100) (.ops (.m 102 0<|
.O 103 y3 (.load (some 16) (.t 6))<|
.m 104 2<|
.k 105 y7 34 [(.t 102), y19, (.t 103), (.t 104)]<|
.nil))
 (.z (.b 107 .eql .none (.t 43) (.i 8)<|
.m 106 107<|
.nil)
 (.cond (.tmp 106) (.ops (.m 108 0<|
.O 109 y3 (.load (some 16) (.t 6))<|
.m 110 2<|
.k 111 y7 34 [(.t 108), y33, (.t 109), (.t 110)]<|
.nil))
 (.z (.b 113 .eql .none (.t 43) (.i 9)<|
.m 112 113<|
.nil)
 (.cond (.tmp 112) (.ops (.m 114 0<|
.O 115 y3 (.load (some 16) (.t 6))<|
.m 116 2<|
.k 117 y7 34 [(.t 114), y24, (.t 115), (.t 116)]<|
.nil))
 (.z (.b 119 .eql .none (.t 43) (.i 10)<|
.m 118 119<|
.nil)
 (.cond (.tmp 118) (.z (.m 120 0<|
.n 121 120<|
.f 122 0 121<|
.p 123 [] (.buildSlice 9 1 [y1] [(0, 1, (.con (V.str ⟨9, 595286729230453392723⟩)))])<|
.k 124 y7 18 [(.t 122), (.t 123)]<|
.nil)
 (.z (.m 125 0<|
.f 126 5 6<|
.O 127 y2 (.load (some 6) (.t 126))<|
.k 128 y7 32 [(.t 125), (.t 127), (.con (V.str ⟨7, 11294481308013352⟩)), (.con (V.str ⟨3, 2107689⟩))]<|
.nil)
 (.z (.m 129 0<|
.n 130 129<|
.f 131 0 130<|
.p 132 [] (.buildSlice 9 1 [y1] [(0, 1, (.con (V.str ⟨3, 2115151⟩)))])<|
.k 133 y7 18 [(.t 131), (.t 132)]<|
.nil)
 (.ops (.m 134 0<|
.f 135 15 6<|
.l 136 .i 135<|
.m 137 2<|
.b 138 .add .none (.t 137) (.i 1)<|
.k 139 y7 19 [(.t 134), (.t 136), (.t 138)]<|
.nil)))))
 (.z (.b 141 .eql .none (.t 43) (.i 11)<|
.m 140 141<|
.nil)
 (.cond (.tmp 140) (.keep [(0, .ptr), (6, .ptr)] [] [] (.gdraw G19_0 H19_0 []))
 (.ops (.m 44 0<|
.n 45 44<|
.f 46 0 45<|
.f 47 1 46<|
.op none .any [47] (.store 1 (.t 47) y12)<|
.nil)))))))))))))))))))))))))))))
def T19_0 (a b : Nat) (c d : Int) (σ : H) : Ans :=
 ldK E σ a (Nat.add b 1) fun u1 =>
 rtBool u1 fun x2 =>
 joinB (fun c3 s4 =>
 joinB (fun c6 s7 =>
 condK c6 (
 stK 1 a (Nat.add b 1) (V.bool true) s7 fun s9 =>
 some ((V.tup []), s9)) (
 ldK E s7 a (Nat.add (Nat.add b 2) 4) fun u10 =>
 iaddrSK 16 u10 c fun b11 o12 =>
 ldnK E s7 b11 o12 16 fun l13 =>
 xcI .i64 l13 fun x16 l15 =>
 xcS l15 fun x19 l18 =>
 xcB l18 fun x22 l21 =>
 xcI .i64 l21 fun x25 l24 =>
 xcI .i64 l24 fun x28 l27 =>
 xcB l27 fun x31 l30 =>
 xcB l30 fun x34 l33 =>
 xcB l33 fun x37 l36 =>
 xcB l36 fun x40 l39 =>
 xcI .i64 l39 fun x43 l42 =>
 xcI .i64 l42 fun x46 l45 =>
 rtCons l45 fun x47 l48 =>
 rtCons l48 fun x49 l50 =>
 xcI .i64 l50 fun x53 l52 =>
 xcB l52 fun x56 l55 =>
 xcI .i64 l55 fun x59 l58 =>
 rtNil l58 (
 let s60 := newB s7 (.cells [.int .i64 (Int.ofNat 0), .str ⟨0, 0⟩, .bool false, .int .i64 (Int.ofNat 0), .int .i64 (Int.ofNat 0), .bool false, .bool false, .bool false, .bool false, .int .i64 (Int.ofNat 0), .int .i64 (Int.ofNat 0), V.nils, V.nils, .int .i64 (Int.ofNat 0), .bool false, .int .i64 (Int.ofNat 0)]);
 stK 16 (H.next s7) 0 (V.agg [.int .i64 x16, .str x19, .bool x22, .int .i64 x25, .int .i64 x28, .bool x31, .bool x34, .bool x37, .bool x40, .int .i64 x43, .int .i64 x46, x47, x49, .int .i64 x53, .bool x56, .int .i64 x59]) s60 fun s61 =>
 ldnK E s61 (H.next s7) 2 3 fun l62 =>
 xcB l62 fun x65 l64 =>
 xcI .i64 l64 fun x68 l67 =>
 xcI .i64 l67 fun x71 l70 =>
 rtNil l70 (
 callK (D 31 [.ptr a b, .agg [.bool x65, .int .i64 x68, .int .i64 x71]] s61) fun u72 s73 =>
 rtTup u72 fun l74 =>
 rtNil l74 (
 ldK E s73 (H.next s7) 0 fun u75 =>
 rtInt .i64 u75 fun x76 =>
 condK (eqF x76 (Int.ofNat 1)) (
 let s77 := newB s73 (.cells [.str (BS.mk 7 22026814072246082)]);
 callK (D 18 [.ptr a b, .sl (H.next s73) 0 1 (.ex 1)] s77) fun u78 s79 =>
 rtTup u78 fun l80 =>
 rtNil l80 (
 some ((V.tup []), s79))) (
 condK (eqF x76 (Int.ofNat 4)) (
 let s81 := newB s73 (.cells [.str (BS.mk 4 1280070990)]);
 callK (D 18 [.ptr a b, .sl (H.next s73) 0 1 (.ex 1)] s81) fun u82 s83 =>
 rtTup u82 fun l84 =>
 rtNil l84 (
 some ((V.tup []), s83))) (
 condK (eqF x76 (Int.ofNat 2)) (
 let s85 := newB s73 (.cells [.str (BS.mk 7 23157120498421321)]);
 callK (D 18 [.ptr a b, .sl (H.next s73) 0 1 (.ex 1)] s85) fun u86 s87 =>
 rtTup u86 fun l88 =>
 rtNil l88 (
 ldnK E s87 (H.next s7) 5 6 fun l89 =>
 xcB l89 fun x92 l91 =>
 xcB l91 fun x95 l94 =>
 xcB l94 fun x98 l97 =>
 xcB l97 fun x101 l100 =>
 xcI .i64 l100 fun x104 l103 =>
 xcI .i64 l103 fun x107 l106 =>
 rtNil l106 (
 callK (D 32 [.ptr a b, .agg [.bool x92, .bool x95, .bool x98, .bool x101, .int .i64 x104, .int .i64 x107], .str (BS.mk 2 10272), .str (BS.mk 1 41)] s87) fun u108 s109 =>
 rtTup u108 fun l110 =>
 rtNil l110 (
 some ((V.tup []), s109))))) (
 condK (eqF x76 (Int.ofNat 5)) (
 let s111 := newB s73 (.cells [.str (BS.mk 12 22068078162707940351935791951)]);
 callK (D 18 [.ptr a b, .sl (H.next s73) 0 1 (.ex 1)] s111) fun u112 s113 =>
 rtTup u112 fun l114 =>
 rtNil l114 (
 ldnK E s113 (H.next s7) 5 6 fun l115 =>
 xcB l115 fun x118 l117 =>
 xcB l117 fun x121 l120 =>
 xcB l120 fun x124 l123 =>
 xcB l123 fun x127 l126 =>
 xcI .i64 l126 fun x130 l129 =>
 xcI .i64 l129 fun x133 l132 =>
 rtNil l132 (
 callK (D 32 [.ptr a b, .agg [.bool x118, .bool x121, .bool x124, .bool x127, .int .i64 x130, .int .i64 x133], .str (BS.mk 8 2891387214851418144), .str (BS.mk 2 10537)] s113) fun u134 s135 =>
 rtTup u134 fun l136 =>
 rtNil l136 (
 some ((V.tup []), s135))))) (
 condK (eqF x76 (Int.ofNat 6)) (
 let s137 := newB s73 (.cells [.str (BS.mk 10 488440487847103610377301)]);
 callK (D 18 [.ptr a b, .sl (H.next s73) 0 1 (.ex 1)] s137) fun u138 s139 =>
 rtTup u138 fun l140 =>
 rtNil l140 (
 ldnK E s139 (H.next s7) 5 6 fun l141 =>
 xcB l141 fun x144 l143 =>
 xcB l143 fun x147 l146 =>
 xcB l146 fun x150 l149 =>
 xcB l149 fun x153 l152 =>
 xcI .i64 l152 fun x156 l155 =>
 xcI .i64 l155 fun x159 l158 =>
 rtNil l158 (
 callK (D 32 [.ptr a b, .agg [.bool x144, .bool x147, .bool x150, .bool x153, .int .i64 x156, .int .i64 x159], .str (BS.mk 8 2891387214851418144), .str (BS.mk 2 10537)] s139) fun u160 s161 =>
 rtTup u160 fun l162 =>
 rtNil l162 (
 some ((V.tup []), s161))))) (
 condK (eqF x76 (Int.ofNat 3)) (
 ldnK E s73 (H.next s7) 0 16 fun l163 =>
 xcI .i64 l163 fun x166 l165 =>
 xcS l165 fun x169 l168 =>
 xcB l168 fun x172 l171 =>
 xcI .i64 l171 fun x175 l174 =>
 xcI .i64 l174 fun x178 l177 =>
 xcB l177 fun x181 l180 =>
 xcB l180 fun x184 l183 =>
 xcB l183 fun x187 l186 =>
 xcB l186 fun x190 l189 =>
 xcI .i64 l189 fun x193 l192 =>
 xcI .i64 l192 fun x196 l195 =>
 rtCons l195 fun x197 l198 =>
 rtCons l198 fun x199 l200 =>
 xcI .i64 l200 fun x203 l202 =>
 xcB l202 fun x206 l205 =>
 xcI .i64 l205 fun x209 l208 =>
 rtNil l208 (
 callK (D 33 [.ptr a b, .agg [.int .i64 x166, .str x169, .bool x172, .int .i64 x175, .int .i64 x178, .bool x181, .bool x184, .bool x187, .bool x190, .int .i64 x193, .int .i64 x196, x197, x199, .int .i64 x203, .bool x206, .int .i64 x209]] s73) fun u210 s211 =>
 rtTup u210 fun l212 =>
 rtNil l212 (
 some ((V.tup []), s211)))) (
 condK (eqF x76 (Int.ofNat 7)) (
 ldnK E s73 (H.next s7) 0 16 fun l213 =>
 xcI .i64 l213 fun x216 l215 =>
 xcS l215 fun x219 l218 =>
 xcB l218 fun x222 l221 =>
 xcI .i64 l221 fun x225 l224 =>
 xcI .i64 l224 fun x228 l227 =>
 xcB l227 fun x231 l230 =>
 xcB l230 fun x234 l233 =>
 xcB l233 fun x237 l236 =>
 xcB l236 fun x240 l239 =>
 xcI .i64 l239 fun x243 l242 =>
 xcI .i64 l242 fun x246 l245 =>
 rtCons l245 fun x247 l248 =>
 rtCons l248 fun x249 l250 =>
 xcI .i64 l250 fun x253 l252 =>
 xcB l252 fun x256 l255 =>
 xcI .i64 l255 fun x259 l258 =>
 rtNil l258 (
 callK (D 34 [.ptr a b, .str (BS.mk 8 4990918871747741011), .agg [.int .i64 x216, .str x219, .bool x222, .int .i64 x225, .int .i64 x228, .bool x231, .bool x234, .bool x237, .bool x240, .int .i64 x243, .int .i64 x246, x247, x249, .int .i64 x253, .bool x256, .int .i64 x259], .int .i64 d] s73) fun u260 s261 =>
 rtTup u260 fun l262 =>
 rtNil l262 (
 some ((V.tup []), s261)))) (
 condK (eqF x76 (Int.ofNat 8)) (
 ldnK E s73 (H.next s7) 0 16 fun l263 =>
 xcI .i64 l263 fun x266 l265 =>
 xcS l265 fun x269 l268 =>
 xcB l268 fun x272 l271 =>
 xcI .i64 l271 fun x275 l274 =>
 xcI .i64 l274 fun x278 l277 =>
 xcB l277 fun x281 l280 =>
 xcB l280 fun x284 l283 =>
 xcB l283 fun x287 l286 =>
 xcB l286 fun x290 l289 =>
 xcI .i64 l289 fun x293 l292 =>
 xcI .i64 l292 fun x296 l295 =>
 rtCons l295 fun x297 l298 =>
 rtCons l298 fun x299 l300 =>
 xcI .i64 l300 fun x303 l302 =>
 xcB l302 fun x306 l305 =>
 xcI .i64 l305 fun x309 l308 =>
 rtNil l308 (
 callK (D 34 [.ptr a b, .str (BS.mk 3 5522771), .agg [.int .i64 x266, .str x269, .bool x272, .int .i64 x275, .int .i64 x278, .bool x281, .bool x284, .bool x287, .bool x290, .int .i64 x293, .int .i64 x296, x297, x299, .int .i64 x303, .bool x306, .int .i64 x309], .int .i64 d] s73) fun u310 s311 =>
 rtTup u310 fun l312 =>
 rtNil l312 (
 some ((V.tup []), s311)))) (
 condK (eqF x76 (Int.ofNat 9)) (
 ldnK E s73 (H.next s7) 0 16 fun l313 =>
 xcI .i64 l313 fun x316 l315 =>
 xcS l315 fun x319 l318 =>
 xcB l318 fun x322 l321 =>
 xcI .i64 l321 fun x325 l324 =>
 xcI .i64 l324 fun x328 l327 =>
 xcB l327 fun x331 l330 =>
 xcB l330 fun x334 l333 =>
 xcB l333 fun x337 l336 =>
 xcB l336 fun x340 l339 =>
 xcI .i64 l339 fun x343 l342 =>
 xcI .i64 l342 fun x346 l345 =>
 rtCons l345 fun x347 l348 =>
 rtCons l348 fun x349 l350 =>
 xcI .i64 l350 fun x353 l352 =>
 xcB l352 fun x356 l355 =>
 xcI .i64 l355 fun x359 l358 =>
 rtNil l358 (
 callK (D 34 [.ptr a b, .str (BS.mk 6 76155295057987), .agg [.int .i64 x316, .str x319, .bool x322, .int .i64 x325, .int .i64 x328, .bool x331, .bool x334, .bool x337, .bool x340, .int .i64 x343, .int .i64 x346, x347, x349, .int .i64 x353, .bool x356, .int .i64 x359], .int .i64 d] s73) fun u360 s361 =>
 rtTup u360 fun l362 =>
 rtNil l362 (
 some ((V.tup []), s361)))) (
 condK (eqF x76 (Int.ofNat 10)) (
 let s363 := newB s73 (.cells [.str (BS.mk 9 595286729230453392723)]);
 callK (D 18 [.ptr a b, .sl (H.next s73) 0 1 (.ex 1)] s363) fun u364 s365 =>
 rtTup u364 fun l366 =>
 rtNil l366 (
 ldnK E s365 (H.next s7) 5 6 fun l367 =>
 xcB l367 fun x370 l369 =>
 xcB l369 fun x373 l372 =>
 xcB l372 fun x376 l375 =>
 xcB l375 fun x379 l378 =>
 xcI .i64 l378 fun x382 l381 =>
 xcI .i64 l381 fun x385 l384 =>
 rtNil l384 (
 callK (D 32 [.ptr a b, .agg [.bool x370, .bool x373, .bool x376, .bool x379, .int .i64 x382, .int .i64 x385], .str (BS.mk 7 11294481308013352), .str (BS.mk 3 2107689)] s365) fun u386 s387 =>
 rtTup u386 fun l388 =>
 rtNil l388 (
 let s389 := newB s387 (.cells [.str (BS.mk 3 2115151)]);
 callK (D 18 [.ptr a b, .sl (H.next s387) 0 1 (.ex 1)] s389) fun u390 s391 =>
 rtTup u390 fun l392 =>
 rtNil l392 (
 ldK E s391 (H.next s7) 15 fun u393 =>
 rtInt .i64 u393 fun x394 =>
 callK (D 19 [.ptr a b, .int .i64 x394, .int .i64 (addF .i64 d (Int.ofNat 1))] s391) fun u395 s396 =>
 rtTup u395 fun l397 =>
 rtNil l397 (
 some ((V.tup []), s396))))))) (
 condK (eqF x76 (Int.ofNat 11)) (
 gdrawK (W G19_0 H19_0 [(0, .ptr a b), (6, .ptr (H.next s7) 0)] s73) fun e398 s399 =>
 some ((V.tup []), s399)) (
 stK 1 a (Nat.add b 1) (V.bool true) s73 fun s400 =>
 some ((V.tup []), s400))))))))))))))))) fun k8 =>
 condK c3 (
 k8 true s4) (
 ldK E s4 a (Nat.add (Nat.add b 2) 4) fun u401 =>
 slenK u401 fun n402 =>
 k8 (leF (Int.ofNat n402) c) s4)) fun k5 =>
 condK x2 (
 k5 true σ) (
 k5 (ltF c (Int.ofNat 0)) σ)
def F19 (N : Nat) (args : List V) (σ : H) : Ans :=
 rtCons args fun x1 l2 =>
 rtPtr x1 fun b3 o4 =>
 xcI .i64 l2 fun x7 l6 =>
 xcI .i64 l6 fun x10 l9 =>
 rtNil l9 (
 T19_0 E D W b3 o4 x7 x10 σ)
def A19 : XFn := ⟨149, [.ptr, .i, .i], [], C19_0⟩
theorem FE19 (args : List V) (σ : H) : runX E D W N A19 args σ = F19 E D W N args σ := by kernel_rfl

/-! ### F20: ogham_oghamref04.white -/
def q20a : List (Nat × XTy) := [(0, .str), (1, .i)]
def Fin20 (E : List (Nat × Blk)) : St → Ans := fun s => resK E s [(.tmp 4)] fun l => some (oneV l, s.σ)
def b20a (c0 : XC) : Nat → St → Ans := blkK 0 (dX E D W N (.keep [(1, .i)] [] [] c0) (Fin20 E) nX (Fin20 E)) nX
def b20b (c0 : XC) (l0 : St → Ans) : Nat → St → Ans := blkK 3 (kX q20a [] [] l0) (blkK 2 (kX q20a [] [] l0) (blkK 1 (kX q20a [] [] l0) (b20a E D W N c0)))
def C20_0 (cc1 : XC) (cc2 : XC) : XC := (.z (.q 4 0<|
.nil)
 (.seq (.block 0 (.loop q20a [] [] cc2))
 (.keep [(1, .i)] [] [] cc1)))
def T20_0 (E : List (Nat × Blk)) (D : Den) (W : DrawFn) (K2 : BS → Int → H → Ans) (a : BS) (b : Int) (σ : H) : Ans :=
 K2 a b σ
def C20_1 : XC := (.z (.m 74 1<|
.m 4 74<|
.nil)
 .ret)
def T20_1 (E : List (Nat × Blk)) (D : Den) (W : DrawFn) (a : Int) (σ : H) : Ans :=
 some ((V.int .i64 a), σ)
def C20_2 (cc3 : XC) : XC := (.seq (.z (.m 5 1<|
.m 6 0<|
.P 7 (.len true (.t 6))<|
.b 8 .lss .none (.t 5) (.t 7)<|
.nil)
 (.cond (.tmp 8) .skip
 (.exit 0)))
 (.block 1 (.block 2 (.z (.m 11 0<|
.m 12 1<|
.P 13 (.idxStr (.t 11) (.t 12))<|
.b 14 .eql .none (.t 13) (.con (V.int .u8 (Int.ofNat 32)))<|
.m 15 14<|
.gO 15 false (.p 16 [0, 15] y10<|
.p 17 [1, 15] y13<|
.p 18 [16, 17, 15] (.idxStr (.t 16) (.t 17))<|
.p 19 [18, 15] (.bin .eql .none (.t 18) (.con (V.int .u8 (Int.ofNat 9))))<|
.nil) 20 15 19<|
.m 21 20<|
.gO 21 false (.p 22 [0, 21] y10<|
.p 23 [1, 21] y13<|
.p 24 [22, 23, 21] (.idxStr (.t 22) (.t 23))<|
.p 25 [24, 21] (.bin .eql .none (.t 24) (.con (V.int .u8 (Int.ofNat 10))))<|
.nil) 26 21 25<|
.m 27 26<|
.gO 27 false (.p 28 [0, 27] y10<|
.p 29 [1, 27] y13<|
.p 30 [28, 29, 27] (.idxStr (.t 28) (.t 29))<|
.p 31 [30, 27] (.bin .eql .none (.t 30) (.con (V.int .u8 (Int.ofNat 13))))<|
.nil) 32 27 31<|
.m 10 32<|
.nil)
 (.cond (.tmp 10) (.ops (.m 33 1<|
.b 34 .add .none (.t 33) (.i 1)<|
.m 1 34<|
.nil))
 (.z (.m 36 0<|
.m 37 1<|
.P 38 (.idxStr (.t 36) (.t 37))<|
.b 39 .eql .none (.t 38) y8<|
.m 40 39<|
.gA 40 true (.p 41 [0, 40] y10<|
.p 42 [1, 40] y13<|
.p 43 [42, 40] (.bin .add .none (.t 42) (.i 1))<|
.op (some 44) (.int .u8) [41, 43, 40] (.call 35 [(.t 41), (.t 43)])<|
.p 45 [44, 40] (.bin .eql .none (.t 44) y8)<|
.nil) 46 40 45<|
.m 35 46<|
.nil)
 (.cond (.tmp 35) (.z (.m 47 1<|
.b 48 .add .none (.t 47) (.i 2)<|
.m 1 48<|
.nil)
 (.block 3 (.loop q20a [] [] cc3)))
 (.z (.m 9 1<|
.m 4 9<|
.nil)
 .ret))))))))
def T20_2 (E : List (Nat × Blk)) (D : Den) (W : DrawFn) (K1 : Int → H → Ans) (K3 : BS → Int → H → Ans) (R2 : BS → Int → H → Ans) (a : BS) (b : Int) (σ : H) : Ans :=
 condK (ltF b (Int.ofNat (BS.len a))) (
 idxStrX a b fun x1 =>
 joinB (fun c2 s3 =>
 joinB (fun c5 s6 =>
 joinB (fun c8 s9 =>
 condK c8 (
 R2 a (addF .i64 b (Int.ofNat 1)) s9) (
 idxStrX a b fun x11 =>
 joinB (fun c12 s13 =>
 condK c12 (
 K3 a (addF .i64 b (Int.ofNat 2)) s13) (
 some ((V.int .i64 b), s13))) fun k14 =>
 condK (eqF x11 (Int.ofNat 45)) (
 callK (D 35 [.str a, .int .i64 (addF .i64 b (Int.ofNat 1))] s9) fun u15 s16 =>
 rtInt .u8 u15 fun x17 =>
 k14 (eqF x17 (Int.ofNat 45)) s16) (
 k14 false s9))) fun k10 =>
 condK c5 (
 k10 true s6) (
 idxStrX a b fun x18 =>
 k10 (eqF x18 (Int.ofNat 13)) s6)) fun k7 =>
 condK c2 (
 k7 true s3) (
 idxStrX a b fun x19 =>
 k7 (eqF x19 (Int.ofNat 10)) s3)) fun k4 =>
 condK (eqF x1 (Int.ofNat 32)) (
 k4 true σ) (
 idxStrX a b fun x20 =>
 k4 (eqF x20 (Int.ofNat 9)) σ)) (
 K1 b σ)
def C20_3 : XC := (.seq (.z (.m 49 1<|
.m 50 0<|
.P 51 (.len true (.t 50))<|
.b 52 .lss .none (.t 49) (.t 51)<|
.m 53 52<|
.gA 53 true (.p 54 [0, 53] y10<|
.p 55 [1, 53] y13<|
.p 56 [54, 55, 53] (.idxStr (.t 54) (.t 55))<|
.p 57 [56, 53] (.bin .neq .none (.t 56) (.con (V.int .u8 (Int.ofNat 10))))<|
.nil) 58 53 57<|
.nil)
 (.cond (.tmp 58) .skip
 (.exit 3)))
 (.block 4 (.seq (.z (.m 59 0<|
.m 60 1<|
.P 61 (.idxStr (.t 59) (.t 60))<|
.b 62 .eql .none (.t 61) y8<|
.m 63 62<|
.gA 63 true (.p 64 [0, 63] y10<|
.p 65 [1, 63] y13<|
.p 66 [65, 63] (.bin .add .none (.t 65) (.i 1))<|
.op (some 67) (.int .u8) [64, 66, 63] (.call 35 [(.t 64), (.t 66)])<|
.p 68 [67, 63] (.bin .eql .none (.t 67) y8)<|
.nil) 69 63 68<|
.nil)
 (.cond (.tmp 69) (.z (.m 70 1<|
.b 71 .add .none (.t 70) (.i 2)<|
.m 1 71<|
.nil)
 (.exit 3))
 .skip))
 (.ops (.m 72 1<|
.b 73 .add .none (.t 72) (.i 1)<|
.m 1 73<|
.nil)))))
def T20_3 (E : List (Nat × Blk)) (D : Den) (W : DrawFn) (R2 : BS → Int → H → Ans) (R3 : BS → Int → H → Ans) (a : BS) (b : Int) (σ : H) : Ans :=
 joinB (fun c1 s2 =>
 condK c1 (
 idxStrX a b fun x4 =>
 joinB (fun c5 s6 =>
 condK c5 (
 R2 a (addF .i64 b (Int.ofNat 2)) s6) (
 R3 a (addF .i64 b (Int.ofNat 1)) s6)) fun k7 =>
 condK (eqF x4 (Int.ofNat 45)) (
 callK (D 35 [.str a, .int .i64 (addF .i64 b (Int.ofNat 1))] s2) fun u8 s9 =>
 rtInt .u8 u8 fun x10 =>
 k7 (eqF x10 (Int.ofNat 45)) s9) (
 k7 false s2)) (
 R2 a b s2)) fun k3 =>
 condK (ltF b (Int.ofNat (BS.len a))) (
 idxStrX a b fun x11 =>
 k3 (not (eqF x11 (Int.ofNat 10))) σ) (
 k3 false σ)
def S20_0 (a : BS) (b : Int) (σ : H) : St := ⟨[(0, .str a), (1, .int .i64 b)], [], [], σ⟩
def S20_1 (a : Int) (σ : H) : St := ⟨[(1, .int .i64 a)], [], [], σ⟩
theorem P20_0 (cc1 : XC) (cc2 : XC) (a : BS) (b : Int) (σ : H) :
  denC E D W N (C20_0 cc1 cc2) (S20_0 a b σ) (Fin20 E) nX (Fin20 E) =
  T20_0 E D W (fun a b σ => iterK (fun rec s' => denC E D W N cc2 s' (kX q20a [] [] rec) (b20a E D W N cc1) (Fin20 E)) N (S20_0 a b σ)) a b σ := by kernel_rfl
theorem P20_2 (cc1 : XC) (cc3 : XC) (li2 : St → Ans) (a : BS) (b : Int) (σ : H) :
  denC E D W N (C20_2 cc3) (S20_0 a b σ) (kX q20a [] [] li2) (b20a E D W N cc1) (Fin20 E) =
  T20_2 E D W (fun b σ => denC E D W N cc1 (S20_1 b σ) (Fin20 E) nX (Fin20 E)) (fun a b σ => iterK (fun rec s' => denC E D W N cc3 s' (kX q20a [] [] rec) (b20b E D W N cc1 li2) (Fin20 E)) N (S20_0 a b σ)) (fun a b σ => li2 (S20_0 a b σ)) a b σ := by kernel_rfl
theorem P20_3 (cc1 : XC) (li2 : St → Ans) (li3 : St → Ans) (a : BS) (b : Int) (σ : H) :
  denC E D W N (C20_3 ) (S20_0 a b σ) (kX q20a [] [] li3) (b20b E D W N cc1 li2) (Fin20 E) =
  T20_3 E D W (fun a b σ => li2 (S20_0 a b σ)) (fun a b σ => li3 (S20_0 a b σ)) a b σ := by kernel_rfl
def J20_1 (E : List (Nat × Blk)) (D : Den) (W : DrawFn) (N : Nat) := T20_1 E D W 
theorem JE20_1 (a : Int) (σ : H) :
  denC E D W N C20_1 (S20_1 a σ) (Fin20 E) nX (Fin20 E) = J20_1 E D W N a σ := by kernel_rfl
def L20_3 (E : List (Nat × Blk)) (D : Den) (W : DrawFn) (N : Nat) (R2 : BS → Int → H → Ans) (n : Nat) : BS → Int → H → Ans :=
  Nat.rec (fun _ _ _ => none) (fun _ ih => T20_3 E D W R2 ih) n
theorem LE20_3 (li2 : St → Ans) (n : Nat) : ∀ (a : BS) (b : Int) (σ : H),
  iterK (fun rec s' => denC E D W N C20_3 s' (kX q20a [] [] rec) (b20b E D W N C20_1 li2) (Fin20 E)) n (S20_0 a b σ) = L20_3 E D W N (fun a b σ => li2 (S20_0 a b σ)) n a b σ := by
  induction n with
  | zero => intro a b σ; rfl
  | succ n ihn =>
    intro a b σ
    rw [iterK_succ]
    refine (P20_3 E D W N C20_1 li2 (iterK (fun rec s' => denC E D W N C20_3 s' (kX q20a [] [] rec) (b20b E D W N C20_1 li2) (Fin20 E)) n) a b σ).trans ?_
    simp only [ihn]
    kernel_rfl
def L20_2 (n : Nat) : BS → Int → H → Ans :=
  Nat.rec (fun _ _ _ => none) (fun _ ih => T20_2 E D W (J20_1 E D W N ) (L20_3 E D W N ih N) ih) n
theorem LE20_2 (n : Nat) : ∀ (a : BS) (b : Int) (σ : H),
  iterK (fun rec s' => denC E D W N (C20_2 C20_3) s' (kX q20a [] [] rec) (b20a E D W N C20_1) (Fin20 E)) n (S20_0 a b σ) = L20_2 E D W N n a b σ := by
  induction n with
  | zero => intro a b σ; rfl
  | succ n ihn =>
    intro a b σ
    rw [iterK_succ]
    refine (P20_2 E D W N C20_1 C20_3 (iterK (fun rec s' => denC E D W N (C20_2 C20_3) s' (kX q20a [] [] rec) (b20a E D W N C20_1) (Fin20 E)) n) a b σ).trans ?_
    simp only [ihn, JE20_1, LE20_3]
    kernel_rfl
def J20_0 := T20_0 E D W (L20_2 E D W N N)
theorem JE20_0 (a : BS) (b : Int) (σ : H) :
  denC E D W N (C20_0 C20_1 (C20_2 C20_3)) (S20_0 a b σ) (Fin20 E) nX (Fin20 E) = J20_0 E D W N a b σ := by
  refine (P20_0 E D W N C20_1 (C20_2 C20_3)  a b σ).trans ?_
  simp only [LE20_2]
  kernel_rfl
def F20 (args : List V) (σ : H) : Ans :=
 xcS args fun x3 l2 =>
 xcI .i64 l2 fun x6 l5 =>
 rtNil l5 (
 J20_0 E D W N x3 x6 σ)
def A20 : XFn := ⟨75, [.str, .i], [(.tmp 4)], (C20_0 C20_1 (C20_2 C20_3))⟩
theorem FE20 (args : List V) (σ : H) : runX E D W N A20 args σ = F20 E D W N args σ := by
  unfold F20
  simp only [← JE20_0]
  kernel_rfl

/-! ### F21: ogham_oghamref04.one -/
def q21a : List (Nat × List XTy) := [(4, [.i, .str, .i]), (6, [.i, .str, .i])]
def C21_0 (cc1 : XC) (cc2 : XC) : XC := (.z (.pal 4 [] 47 [y0, y1, y0]<|
.q 5 0<|
.nil)
 (.z (.m 10 1<|
.op (some 11) y4 [10] (.build [y0, y1, y0] [(2, 1, (.t 10))])<|
.pal 6 [] 47 [y0, y1, y0]<|
.op none y4 [6, 11] (.store 3 (.t 6) (.t 11))<|
.nil)
 (.z (.m 12 0<|
.m 13 1<|
.P 14 (.idxStr (.t 12) (.t 13))<|
.m 7 14<|
.nil)
 (.z (.c 8 y23<|
.nil)
 (.seq (.block 0 (.z (.m 32 7<|
.k 33 .bool 36 [(.t 32)]<|
.m 31 33<|
.nil)
 (.cond (.tmp 31) (.z (.m 34 0<|
.m 35 1<|
.k 36 .i 37 [(.t 34), (.t 35)]<|
.m 8 36<|
.nil)
 (.seq (.z (.m 37 8<|
.b 38 .lss .none (.t 37) (.i 0)<|
.nil)
 (.cond (.tmp 38) (.z (.O 39 y4 (.load (some 3) (.t 6))<|
.op none y4 [4, 39] (.store 3 (.t 4) (.t 39))<|
.c 5 y23<|
.nil)
 .ret)
 .skip))
 (.seq (.draw (.m 40 0<|
.m 41 1<|
.m 42 8<|
.p 43 [40, 41, 42] (.sliceStr (.t 40) (some (.t 41)) (some (.t 42)))<|
.f 44 0 6<|
.op none .any [44] (.store 1 (.t 44) (.i 2))<|
.f 45 1 6<|
.w 1 45 43<|
.nil) [0, 0, 0, 7, 0, 16, 63, 127])
 (.seq (.z (.m 46 7<|
.b 47 .leq .none (.t 46) (.con (V.int .u8 (Int.ofNat 90)))<|
.nil)
 (.cond (.tmp 47) (.ops (.f 48 0 6<|
.op none .any [48] (.store 1 (.t 48) (.i 1))<|
.nil))
 .skip))
 (.keep [(8, .i)] [4, 6] q21a cc2)))))
 (.z (.m 54 7<|
.k 55 .bool 39 [(.t 54)]<|
.m 56 55<|
.gO 56 false (.p 57 [7, 56] (.mov (.t 7))<|
.p 58 [57, 56] (.bin .eql .none (.t 57) y8)<|
.p 59 [58, 56] (.mov (.t 58))<|
.grp 59 true (.p 60 [0, 59] y10<|
.p 61 [1, 59] y13<|
.p 62 [61, 59] (.bin .add .none (.t 61) (.i 1))<|
.op (some 63) (.int .u8) [60, 62, 59] (.call 35 [(.t 60), (.t 62)])<|
.op (some 64) .bool [63, 59] (.call 39 [(.t 63)])<|
.nil) 65 [59, 64, 56] (.t 59) (.t 64) (.con y5)<|
.nil) 66 56 65<|
.m 53 66<|
.nil)
 (.cond (.tmp 53) (.z (.m 67 0<|
.m 68 1<|
.k 69 .i 40 [(.t 67), (.t 68)]<|
.m 8 69<|
.nil)
 (.seq (.z (.m 70 8<|
.b 71 .lss .none (.t 70) (.i 0)<|
.nil)
 (.cond (.tmp 71) (.z (.O 72 y4 (.load (some 3) (.t 6))<|
.op none y4 [4, 72] (.store 3 (.t 4) (.t 72))<|
.c 5 y23<|
.nil)
 .ret)
 .skip))
 (.draw (.m 73 0<|
.m 74 1<|
.m 75 8<|
.p 76 [73, 74, 75] (.sliceStr (.t 73) (some (.t 74)) (some (.t 75)))<|
.f 77 0 6<|
.op none .any [77] (.store 1 (.t 77) (.i 3))<|
.f 78 1 6<|
.w 1 78 76<|
.nil) [0, 0, 0, 7, 0, 16, 63, 127])))
 (.z (.m 80 7<|
.b 81 .eql .none (.t 80) (.con (V.int .u8 (Int.ofNat 39)))<|
.m 79 81<|
.nil)
 (.cond (.tmp 79) (.z (.f 82 0 6<|
.op none .any [82] (.store 1 (.t 82) (.i 4))<|
.nil)
 (.ops (.m 84 0<|
.m 85 1<|
.k 86 (.tup [.i, .str]) 41 [(.t 84), (.t 85)]<|
.m 83 86<|
.P 87 (.extract 0 (.t 83))<|
.P 88 (.extract 1 (.t 83))<|
.m 8 87<|
.f 89 1 6<|
.w 1 89 88<|
.nil)))
 (.z (.m 91 7<|
.b 92 .eql .none (.t 91) (.con (V.int .u8 (Int.ofNat 34)))<|
.m 90 92<|
.nil)
 (.cond (.tmp 90) (.z (.f 93 0 6<|
.op none .any [93] (.store 1 (.t 93) (.i 7))<|
.nil)
 (.ops (.m 95 0<|
.m 96 1<|
.k 97 (.tup [.i, .str]) 42 [(.t 95), (.t 96)]<|
.m 94 97<|
.P 98 (.extract 0 (.t 94))<|
.P 99 (.extract 1 (.t 94))<|
.m 8 98<|
.f 100 1 6<|
.w 1 100 99<|
.nil)))
 (.z (.m 15 0<|
.m 16 1<|
.k 17 .i 43 [(.t 15), (.t 16)]<|
.m 9 17<|
.nil)
 (.z (.m 18 9<|
.b 19 .gtr .none (.t 18) (.i 0)<|
.nil)
 (.cond (.tmp 19) (.draw (.m 20 0<|
.m 21 1<|
.m 22 1<|
.m 23 9<|
.b 24 .add .none (.t 22) (.t 23)<|
.p 25 [20, 21, 24] (.sliceStr (.t 20) (some (.t 21)) (some (.t 24)))<|
.m 26 1<|
.m 27 9<|
.b 28 .add .none (.t 26) (.t 27)<|
.f 29 0 6<|
.op none .any [29] (.store 1 (.t 29) (.i 6))<|
.f 30 1 6<|
.w 1 30 25<|
.m 8 28<|
.nil) [0, 0, 0, 0, 12, 31, 0, 0, 192, 0, 512, 1599, 3647, 8191])
 .skip))))))))))))
 (.keep [(8, .i)] [4, 6] q21a cc1))))))
def T21_0 (E : List (Nat × Blk)) (D : Den) (W : DrawFn) (K1 : Int → Int → BS → Int → Int → BS → Int → H → Ans) (K2 : Int → Int → BS → Int → Int → BS → Int → H → Ans) (a : BS) (b : Int) (σ : H) : Ans :=
 idxStrX a b fun x1 =>
 callK (D 36 [.int .u8 x1] σ) fun u2 s3 =>
 rtBool u2 fun x4 =>
 condK x4 (
 callK (D 37 [.str a, .int .i64 b] s3) fun u5 s6 =>
 rtInt .i64 u5 fun x7 =>
 condK (ltF x7 (Int.ofNat 0)) (
 some ((V.tup [.agg [.int .i64 (Int.ofNat 0), .str (BS.mk 0 0), .int .i64 b], .int .i64 (Int.negSucc 0)]), s6)) (
 sliceStrX a (some (V.int .i64 b)) (some (V.int .i64 x7)) fun t8 =>
 condK (leF x1 (Int.ofNat 90)) (
 K2 x7 (Int.ofNat 0) (BS.mk 0 0) (Int.ofNat 0) (Int.ofNat 1) t8 b s6) (
 K2 x7 (Int.ofNat 0) (BS.mk 0 0) (Int.ofNat 0) (Int.ofNat 2) t8 b s6))) (
 callK (D 39 [.int .u8 x1] s3) fun u9 s10 =>
 rtBool u9 fun x11 =>
 joinB (fun c12 s13 =>
 condK c12 (
 callK (D 40 [.str a, .int .i64 b] s13) fun u15 s16 =>
 rtInt .i64 u15 fun x17 =>
 condK (ltF x17 (Int.ofNat 0)) (
 some ((V.tup [.agg [.int .i64 (Int.ofNat 0), .str (BS.mk 0 0), .int .i64 b], .int .i64 (Int.negSucc 0)]), s16)) (
 sliceStrX a (some (V.int .i64 b)) (some (V.int .i64 x17)) fun t18 =>
 K1 x17 (Int.ofNat 0) (BS.mk 0 0) (Int.ofNat 0) (Int.ofNat 3) t18 b s16)) (
 condK (eqF x1 (Int.ofNat 39)) (
 callK (D 41 [.str a, .int .i64 b] s13) fun u19 s20 =>
 rtTup u19 fun l21 =>
 xcI .i64 l21 fun x24 l23 =>
 xcS l23 fun x27 l26 =>
 rtNil l26 (
 K1 x24 (Int.ofNat 0) (BS.mk 0 0) (Int.ofNat 0) (Int.ofNat 4) x27 b s20)) (
 condK (eqF x1 (Int.ofNat 34)) (
 callK (D 42 [.str a, .int .i64 b] s13) fun u28 s29 =>
 rtTup u28 fun l30 =>
 xcI .i64 l30 fun x33 l32 =>
 xcS l32 fun x36 l35 =>
 rtNil l35 (
 K1 x33 (Int.ofNat 0) (BS.mk 0 0) (Int.ofNat 0) (Int.ofNat 7) x36 b s29)) (
 callK (D 43 [.str a, .int .i64 b] s13) fun u37 s38 =>
 rtInt .i64 u37 fun x39 =>
 condK (ltF (Int.ofNat 0) x39) (
 sliceStrX a (some (V.int .i64 b)) (some (V.int .i64 (addF .i64 b x39))) fun t40 =>
 K1 (addF .i64 b x39) (Int.ofNat 0) (BS.mk 0 0) (Int.ofNat 0) (Int.ofNat 6) t40 b s38) (
 K1 (Int.negSucc 0) (Int.ofNat 0) (BS.mk 0 0) (Int.ofNat 0) (Int.ofNat 0) (BS.mk 0 0) b s38))))) fun k14 =>
 condK x11 (
 k14 true s10) (
 joinB (fun c41 s42 =>
 k14 c41 s42) fun k43 =>
 condK (eqF x1 (Int.ofNat 45)) (
 callK (D 35 [.str a, .int .i64 (addF .i64 b (Int.ofNat 1))] s10) fun u44 s45 =>
 rtInt .u8 u44 fun x46 =>
 callK (D 39 [.int .u8 x46] s45) fun u47 s48 =>
 rtBool u47 fun x49 =>
 k43 x49 s48) (
 k43 false s10)))
def C21_1 : XC := (.z (.O 101 y4 (.load (some 3) (.t 6))<|
.m 102 8<|
.op none y4 [4, 101] (.store 3 (.t 4) (.t 101))<|
.m 5 102<|
.nil)
 .ret)
def T21_1 (E : List (Nat × Blk)) (D : Den) (W : DrawFn) (a b : Int) (c : BS) (d e : Int) (f : BS) (g : Int) (σ : H) : Ans :=
 some ((V.tup [.agg [.int .i64 e, .str f, .int .i64 g], .int .i64 a]), σ)
def C21_2 : XC := (.z (.f 49 1 6<|
.l 50 .str 49<|
.k 51 .bool 38 [(.t 50)]<|
.nil)
 (.cond (.tmp 51) (.ops (.f 52 0 6<|
.op none .any [52] (.store 1 (.t 52) (.i 5))<|
.nil))
 .skip))
def T21_2 (E : List (Nat × Blk)) (D : Den) (W : DrawFn) (K1 : Int → Int → BS → Int → Int → BS → Int → H → Ans) (a b : Int) (c : BS) (d e : Int) (f : BS) (g : Int) (σ : H) : Ans :=
 callK (D 38 [.str f] σ) fun u1 s2 =>
 rtBool u1 fun x3 =>
 condK x3 (
 K1 a b c d (Int.ofNat 5) f g s2) (
 K1 a b c d e f g s2)
def J21_1 (E : List (Nat × Blk)) (D : Den) (W : DrawFn) (N : Nat) := T21_1 E D W 
def J21_2 := T21_2 E D W (J21_1 E D W N )
def F21 (args : List V) (σ : H) : Ans :=
 xcS args fun x3 l2 =>
 xcI .i64 l2 fun x6 l5 =>
 rtNil l5 (
 T21_0 E D W (J21_1 E D W N ) (J21_2 E D W N ) x3 x6 σ)
def A21 : XFn := ⟨103, [.str, .i], [(.cell 4 (some 3)), (.tmp 5)], (C21_0 C21_1 C21_2)⟩
theorem FE21 (args : List V) (σ : H) : runX E D W N A21 args σ = F21 E D W N args σ := by kernel_rfl

/-! ### F22: __ogham_oghamref05.parser_.next -/
def C22_0 (cc1 : XC) : XC := (.z (.pal 2 [] 47 [y0, y1, y0]<|
.nil)
 (.seq (.draw (.m 4 0<|
.n 5 4<|
.f 6 0 5<|
.l 7 .any 6<|
.m 8 0<|
.n 9 8<|
.f 10 1 9<|
.l 11 .i 10<|
.s 12 3 7 11<|
.O 13 y4 (.load (some 3) (.t 12))<|
.pal 3 [] 47 [y0, y1, y0]<|
.op none y4 [3, 13] (.store 3 (.t 3) (.t 13))<|
.nil) [0, 1, 3, 7, 0, 16, 48, 112, 255, 511, 0, 2047])
 (.seq (.seq (.draw (.m 14 0<|
.n 15 14<|
.f 16 1 15<|
.l 17 .i 16<|
.b 18 .add .none (.t 17) (.i 1)<|
.m 19 0<|
.n 20 19<|
.f 21 0 20<|
.l 22 .any 21<|
.u 23 22<|
.b 24 .lss .none (.t 18) (.t 23)<|
.nil) [0, 1, 3, 7, 15, 0, 32, 96, 224, 480, 1023])
 (.cond (.tmp 24) (.ops (.m 25 0<|
.n 26 25<|
.f 27 1 26<|
.l 28 .i 27<|
.b 29 .add .none (.t 28) (.i 1)<|
.n 30 25<|
.f 31 1 30<|
.w 1 31 29<|
.nil))
 .skip))
 (.keep [] [2, 3] [(2, [.i, .str, .i]), (3, [.i, .str, .i])] cc1))))
def T22_0 (E : List (Nat × Blk)) (D : Den) (W : DrawFn) (K1 : Int → BS → Int → Int → BS → Int → H → Ans) (a b : Nat) (σ : H) : Ans :=
 ldK E σ a b fun u1 =>
 ldK E σ a (Nat.add b 1) fun u2 =>
 rtInt .i64 u2 fun x3 =>
 iaddrSK 3 u1 x3 fun b4 o5 =>
 ldnK E σ b4 o5 3 fun l6 =>
 xcI .i64 l6 fun x9 l8 =>
 xcS l8 fun x12 l11 =>
 xcI .i64 l11 fun x15 l14 =>
 rtNil l14 (
 ldK E σ a (Nat.add b 1) fun u16 =>
 rtInt .i64 u16 fun x17 =>
 ldK E σ a b fun u18 =>
 slenK u18 fun n19 =>
 condK (ltF (addF .i64 x17 (Int.ofNat 1)) (Int.ofNat n19)) (
 ldK E σ a (Nat.add b 1) fun u20 =>
 rtInt .i64 u20 fun x21 =>
 stK 1 a (Nat.add b 1) (V.int .i64 (addF .i64 x21 (Int.ofNat 1))) σ fun s22 =>
 K1 (Int.ofNat 0) (BS.mk 0 0) (Int.ofNat 0) x9 x12 x15 s22) (
 K1 (Int.ofNat 0) (BS.mk 0 0) (Int.ofNat 0) x9 x12 x15 σ))
def C22_1 : XC := (.z (.O 32 y4 (.load (some 3) (.t 3))<|
.op none y4 [2, 32] (.store 3 (.t 2) (.t 32))<|
.nil)
 .ret)
def T22_1 (E : List (Nat × Blk)) (D : Den) (W : DrawFn) (a : Int) (b : BS) (c d : Int) (e : BS) (f : Int) (σ : H) : Ans :=
 some ((V.agg [.int .i64 d, .str e, .int .i64 f]), σ)
def J22_1 (E : List (Nat × Blk)) (D : Den) (W : DrawFn) (N : Nat) := T22_1 E D W 
def F22 (args : List V) (σ : H) : Ans :=
 rtCons args fun x1 l2 =>
 rtPtr x1 fun b3 o4 =>
 rtNil l2 (
 T22_0 E D W (J22_1 E D W N ) b3 o4 σ)
def A22 : XFn := ⟨33, [.ptr], [(.cell 2 (some 3))], (C22_0 C22_1)⟩
theorem FE22 (args : List V) (σ : H) : runX E D W N A22 args σ = F22 E D W N args σ := by kernel_rfl

/-! ### F23: ogham_oghamref05.begins -/
def q23a : List (Nat × XTy) := [(1, .ptr), (3, .any), (4, .i)]
def Fin23 (E : List (Nat × Blk)) : St → Ans := fun s => resK E s [(.tmp 2)] fun l => some (oneV l, s.σ)
def b23a (c0 : XC) : Nat → St → Ans := blkK 0 (dX E D W N (.keep [(1, .ptr)] [] [] c0) (Fin23 E) nX (Fin23 E)) nX
def C23_0 (cc1 : XC) (cc2 : XC) : XC := (.z (.P 1 (.box 47 (.t 0))<|
.c 2 y5<|
.nil)
 (.z (.p 5 [] (.buildSlice 9 10 [y1, y1, y1, y1, y1, y1, y1, y1, y1, y1] [(0, 1, (.con (V.str ⟨1, 91⟩))), (1, 1, y20), (2, 1, y27), (3, 1, y16), (4, 1, y21), (5, 1, (.con (V.str ⟨5, 361940403023⟩))), (6, 1, y25), (7, 1, y33), (8, 1, y24), (9, 1, y19)])<|
.m 3 5<|
.nil)
 (.seq (.z (.q 4 0<|
.nil)
 (.block 0 (.loop q23a [] [] cc2)))
 (.keep [(1, .ptr)] [] [] cc1))))
def T23_0 (E : List (Nat × Blk)) (D : Den) (W : DrawFn) (K2 : Nat → Nat → V → Int → H → Ans) (a : Int) (b : BS) (c : Int) (σ : H) : Ans :=
 nbK [.int .i64 a, .str b, .int .i64 c] σ fun s1 =>
 let s2 := newB s1 (.cells [.str (BS.mk 1 91), .str (BS.mk 7 22026814072246082), .str (BS.mk 4 1280070990), .str (BS.mk 10 488440487847103610377301), .str (BS.mk 7 23157120498421321), .str (BS.mk 5 361940403023), .str (BS.mk 10 322399817400452109389381), .str (BS.mk 3 5522771), .str (BS.mk 6 76155295057987), .str (BS.mk 8 4990918871747741011)]);
 K2 (H.next σ) 0 (V.sl (H.next s1) 0 10 (.ex 10)) (Int.ofNat 0) s2
def C23_1 : XC := (.z (.f 29 0 1<|
.l 30 .i 29<|
.b 31 .eql .none (.t 30) (.i 1)<|
.m 2 31<|
.nil)
 .ret)
def T23_1 (E : List (Nat × Blk)) (D : Den) (W : DrawFn) (a b : Nat) (σ : H) : Ans :=
 ldK E σ a b fun u1 =>
 rtInt .i64 u1 fun x2 =>
 some ((V.bool (eqF x2 (Int.ofNat 1))), σ)
def C23_2 : XC := (.seq (.z (.m 6 4<|
.m 7 3<|
.u 8 7<|
.b 9 .lss .none (.t 6) (.t 8)<|
.nil)
 (.cond (.tmp 9) .skip
 (.exit 0)))
 (.seq (.block 1 (.seq (.draw (.m 12 3<|
.m 13 4<|
.s 14 1 12 13<|
.l 15 .str 14<|
.f 16 1 1<|
.l 17 .str 16<|
.b 18 .eql .none (.t 15) (.t 17)<|
.m 19 18<|
.gA 19 true (.p 20 [1, 19] (.faddr 0 (.t 1))<|
.op (some 21) .i [20, 19] (.load none (.t 20))<|
.p 22 [21, 19] (.bin .eql .none (.t 21) (.i 5))<|
.p 23 [22, 19] (.mov (.t 22))<|
.grp 23 false (.p 24 [1, 23] (.faddr 0 (.t 1))<|
.op (some 25) .i [24, 23] (.load none (.t 24))<|
.p 26 [25, 23] (.bin .eql .none (.t 25) (.i 6))<|
.nil) 27 [23, 26, 19] (.t 23) y12 (.t 26)<|
.nil) 28 19 27<|
.nil) [0, 0, 3, 7, 0, 16, 63, 127, 255, 511, 1023, 2047, 4095, 8191, 16383, 32767, 65535])
 (.cond (.tmp 28) (.z (.c 2 (V.bool true)<|
.nil)
 .ret)
 .skip)))
 (.ops (.m 10 4<|
.b 11 .add .none (.t 10) (.i 1)<|
.m 4 11<|
.nil))))
def T23_2 (E : List (Nat × Blk)) (D : Den) (W : DrawFn) (K1 : Nat → Nat → H → Ans) (R2 : Nat → Nat → V → Int → H → Ans) (a b : Nat) (c : V) (d : Int) (σ : H) : Ans :=
 slenK c fun n1 =>
 condK (ltF d (Int.ofNat n1)) (
 iaddrSK 1 c d fun b2 o3 =>
 ldK E σ b2 o3 fun u4 =>
 rtStr u4 fun x5 =>
 ldK E σ a (Nat.add b 1) fun u6 =>
 rtStr u6 fun x7 =>
 joinB (fun c8 s9 =>
 condK c8 (
 some ((V.bool true), s9)) (
 R2 a b c (addF .i64 d (Int.ofNat 1)) s9)) fun k10 =>
 condK (BS.beq x5 x7) (
 ldK E σ a b fun u11 =>
 rtInt .i64 u11 fun x12 =>
 joinB (fun c13 s14 =>
 k10 c13 s14) fun k15 =>
 condK (eqF x12 (Int.ofNat 5)) (
 k15 true σ) (
 ldK E σ a b fun u16 =>
 rtInt .i64 u16 fun x17 =>
 k15 (eqF x17 (Int.ofNat 6)) σ)) (
 k10 false σ)) (
 K1 a b σ)
def S23_0 (a : Int) (b : BS) (c : Int) (σ : H) : St := ⟨[(0, .agg [.int .i64 a, .str b, .int .i64 c])], [], [], σ⟩
def S23_1 (a b : Nat) (σ : H) : St := ⟨[(1, .ptr a b)], [], [], σ⟩
def S23_2 (a b : Nat) (c : V) (d : Int) (σ : H) : St := ⟨[(1, .ptr a b), (3, c), (4, .int .i64 d)], [], [], σ⟩
theorem P23_0 (cc1 : XC) (cc2 : XC) (a : Int) (b : BS) (c : Int) (σ : H) :
  denC E D W N (C23_0 cc1 cc2) (S23_0 a b c σ) (Fin23 E) nX (Fin23 E) =
  T23_0 E D W (fun d e f g σ => iterK (fun rec s' => denC E D W N cc2 s' (kX q23a [] [] rec) (b23a E D W N cc1) (Fin23 E)) N (S23_2 d e f g σ)) a b c σ := by kernel_rfl
theorem P23_2 (cc1 : XC) (li2 : St → Ans) (a b : Nat) (c : V) (d : Int) (σ : H) :
  denC E D W N (C23_2 ) (S23_2 a b c d σ) (kX q23a [] [] li2) (b23a E D W N cc1) (Fin23 E) =
  T23_2 E D W (fun a b σ => denC E D W N cc1 (S23_1 a b σ) (Fin23 E) nX (Fin23 E)) (fun a b c d σ => li2 (S23_2 a b c d σ)) a b c d σ := by kernel_rfl
def J23_1 (E : List (Nat × Blk)) (D : Den) (W : DrawFn) (N : Nat) := T23_1 E D W 
theorem JE23_1 (a b : Nat) (σ : H) :
  denC E D W N C23_1 (S23_1 a b σ) (Fin23 E) nX (Fin23 E) = J23_1 E D W N a b σ := by kernel_rfl
def L23_2 (n : Nat) : Nat → Nat → V → Int → H → Ans :=
  Nat.rec (fun _ _ _ _ _ => none) (fun _ ih => T23_2 E D W (J23_1 E D W N ) ih) n
theorem LE23_2 (n : Nat) : ∀ (a b : Nat) (c : V) (d : Int) (σ : H),
  iterK (fun rec s' => denC E D W N C23_2 s' (kX q23a [] [] rec) (b23a E D W N C23_1) (Fin23 E)) n (S23_2 a b c d σ) = L23_2 E D W N n a b c d σ := by
  induction n with
  | zero => intro a b c d σ; rfl
  | succ n ihn =>
    intro a b c d σ
    rw [iterK_succ]
    refine (P23_2 E D W N C23_1 (iterK (fun rec s' => denC E D W N C23_2 s' (kX q23a [] [] rec) (b23a E D W N C23_1) (Fin23 E)) n) a b c d σ).trans ?_
    simp only [ihn, JE23_1]
    kernel_rfl
def J23_0 := T23_0 E D W (L23_2 E D W N N)
theorem JE23_0 (a : Int) (b : BS) (c : Int) (σ : H) :
  denC E D W N (C23_0 C23_1 C23_2) (S23_0 a b c σ) (Fin23 E) nX (Fin23 E) = J23_0 E D W N a b c σ := by
  refine (P23_0 E D W N C23_1 C23_2  a b c σ).trans ?_
  simp only [LE23_2]
  kernel_rfl
def F23 (args : List V) (σ : H) : Ans :=
 rtCons args fun x1 l2 =>
 rtAgg x1 fun l3 =>
 xcI .i64 l3 fun x6 l5 =>
 xcS l5 fun x9 l8 =>
 xcI .i64 l8 fun x12 l11 =>
 rtNil l11 (
 rtNil l2 (
 J23_0 E D W N x6 x9 x12 σ))
def A23 : XFn := ⟨32, [y4], [(.tmp 2)], (C23_0 C23_1 C23_2)⟩
theorem FE23 (args : List V) (σ : H) : runX E D W N A23 args σ = F23 E D W N args σ := by
  unfold F23
  simp only [← JE23_0]
  kernel_rfl

/-! ### F24: __ogham_oghamref05.parser_.number -/
def C24_0 : XC := (.z (.q 2 0<|
.nil)
 (.z (.m 4 0<|
.k 5 .str 10 [(.t 4), (.i 3)]<|
.m 3 5<|
.nil)
 (.seq (.z (.m 6 3<|
.b 7 .eql .none (.t 6) (.con y1)<|
.nil)
 (.cond (.tmp 7) (.z (.q 2 0<|
.nil)
 .ret)
 .skip))
 (.z (.m 8 3<|
.k 9 .i 44 [(.t 8)]<|
.m 2 9<|
.nil)
 .ret))))
def T24_0 (E : List (Nat × Blk)) (D : Den) (W : DrawFn) (a : V) (σ : H) : Ans :=
 callK (D 10 [a, .int .i64 (Int.ofNat 3)] σ) fun u1 s2 =>
 rtStr u1 fun x3 =>
 condK (BS.beq x3 (BS.mk 0 0)) (
 some ((V.int .i64 (Int.ofNat 0)), s2)) (
 callK (D 44 [.str x3] s2) fun u4 s5 =>
 rtInt .i64 u4 fun x6 =>
 some ((V.int .i64 x6), s5))
def F24 (N : Nat) (args : List V) (σ : H) : Ans :=
 rtCons args fun x1 l2 =>
 rtNil l2 (
 T24_0 E D W x1 σ)
def A24 : XFn := ⟨10, [.any], [(.tmp 2)], C24_0⟩
theorem FE24 (args : List V) (σ : H) : runX E D W N A24 args σ = F24 E D W N args σ := by kernel_rfl

/-! ### F25: __ogham_oghamref05.parser_.base -/
def G25_0 : List AOper := [⟨(some 139), .mov (.tmp 1), none⟩, ⟨(some 140), .mov (.tmp 1), none⟩, ⟨(some 141), .faddr 1 (.tmp 6), none⟩, ⟨(some 142), .load none (.tmp 141), none⟩, ⟨(some 143), .nilck (.tmp 139), none⟩, ⟨(some 144), .faddr 0 (.tmp 143), none⟩, ⟨none, .store 1 (.tmp 144) (.con (V.int .i64 (Int.ofNat 11))), none⟩, ⟨(some 145), .nilck (.tmp 140), none⟩, ⟨(some 146), .faddr 1 (.tmp 145), none⟩, ⟨none, .store 1 (.tmp 146) (.tmp 142), none⟩]
def H25_0 : List DP := [⟨0, [1]⟩, ⟨0, [1]⟩, ⟨0, [6]⟩, ⟨4, [141]⟩, ⟨1, [139]⟩, ⟨17, [143]⟩, ⟨49, [144]⟩, ⟨127, [140]⟩, ⟨255, [145]⟩, ⟨511, [146, 142]⟩]
def C25_0 : XC := (.z (.m 7 0<|
.k 8 y4 13 [(.t 7)]<|
.p 6 [] (.alloc 47 [y0, y1, y0])<|
.op none y4 [6, 8] (.store 3 (.t 6) (.t 8))<|
.nil)
 (.block 0 (.z (.m 13 0<|
.n 14 13<|
.f 15 7 14<|
.l 16 .i 15<|
.b 17 .neq .none (.t 16) (.i 0)<|
.m 12 17<|
.nil)
 (.cond (.tmp 12) .skip
 (.z (.m 19 0<|
.k 20 .bool 12 [(.t 19), y20]<|
.m 18 20<|
.nil)
 (.cond (.tmp 18) (.ops (.m 21 1<|
.n 22 21<|
.f 23 0 22<|
.op none .any [23] (.store 1 (.t 23) (.i 1))<|
.nil))
 (.z (.m 25 0<|
.k 26 .bool 12 [(.t 25), y27]<|
.m 24 26<|
.nil)
 (.cond (.tmp 24) (.ops (.m 27 1<|
.n 28 27<|
.f 29 0 28<|
.op none .any [29] (.store 1 (.t 29) (.i 4))<|
.nil))
 (.z (.m 31 0<|
.k 32 .bool 12 [(.t 31), y16]<|
.m 30 32<|
.nil)
 (.cond (.tmp 30) (.z (.m 33 1<|
.n 34 33<|
.f 35 0 34<|
.op none .any [35] (.store 1 (.t 35) (.i 6))<|
.nil)
 (.ops (.m 36 1<|
.m 37 0<|
.k 38 y2 45 [(.t 37)]<|
.n 39 36<|
.f 40 5 39<|
.op none y2 [40, 38] (.store 6 (.t 40) (.t 38))<|
.nil)))
 (.z (.m 42 0<|
.k 43 .bool 12 [(.t 42), y21]<|
.m 41 43<|
.nil)
 (.cond (.tmp 41) (.z (.m 44 1<|
.n 45 44<|
.f 46 0 45<|
.op none .any [46] (.store 1 (.t 46) (.i 2))<|
.nil)
 (.z (.m 47 0<|
.k 48 .bool 12 [(.t 47), (.con (V.str ⟨1, 40⟩))]<|
.nil)
 (.cond (.tmp 48) (.z (.m 49 1<|
.m 50 0<|
.k 51 y2 46 [(.t 50)]<|
.n 52 49<|
.f 53 5 52<|
.op none y2 [53, 51] (.store 6 (.t 53) (.t 51))<|
.nil)
 (.ops (.m 54 0<|
.k 55 y7 11 [(.t 54), y29]<|
.nil)))
 .skip)))
 (.z (.m 57 0<|
.k 58 .bool 12 [(.t 57), (.con (V.str ⟨5, 361940403023⟩))]<|
.m 56 58<|
.nil)
 (.cond (.tmp 56) (.z (.m 59 0<|
.k 60 y7 11 [(.t 59), (.con (V.str ⟨6, 78401563153491⟩))]<|
.nil)
 (.z (.m 61 1<|
.n 62 61<|
.f 63 0 62<|
.op none .any [63] (.store 1 (.t 63) (.i 5))<|
.nil)
 (.ops (.m 64 1<|
.m 65 0<|
.k 66 y2 45 [(.t 65)]<|
.n 67 64<|
.f 68 5 67<|
.op none y2 [68, 66] (.store 6 (.t 68) (.t 66))<|
.nil))))
 (.z (.m 70 0<|
.k 71 .bool 12 [(.t 70), y25]<|
.m 69 71<|
.nil)
 (.cond (.tmp 69) (.z (.m 72 1<|
.n 73 72<|
.f 74 0 73<|
.op none .any [74] (.store 1 (.t 74) (.i 3))<|
.nil)
 (.z (.m 75 0<|
.k 76 y7 11 [(.t 75), y28]<|
.nil)
 (.z (.m 77 0<|
.m 78 1<|
.k 79 y7 47 [(.t 77), (.t 78)]<|
.nil)
 (.ops (.m 80 0<|
.k 81 y7 11 [(.t 80), (.con (V.str ⟨1, 125⟩))]<|
.nil)))))
 (.z (.m 83 0<|
.k 84 .bool 12 [(.t 83), y33]<|
.m 82 84<|
.nil)
 (.cond (.tmp 82) (.z (.m 85 1<|
.n 86 85<|
.f 87 0 86<|
.op none .any [87] (.store 1 (.t 87) (.i 8))<|
.nil)
 (.z (.m 88 0<|
.k 89 y7 11 [(.t 88), y28]<|
.nil)
 (.ops (.m 90 0<|
.m 91 1<|
.m 92 2<|
.k 93 y7 48 [(.t 90), (.t 91), (.t 92)]<|
.nil))))
 (.z (.m 95 0<|
.k 96 .bool 12 [(.t 95), y24]<|
.m 94 96<|
.nil)
 (.cond (.tmp 94) (.z (.m 97 1<|
.n 98 97<|
.f 99 0 98<|
.op none .any [99] (.store 1 (.t 99) (.i 9))<|
.nil)
 (.z (.m 100 0<|
.k 101 y7 11 [(.t 100), y28]<|
.nil)
 (.ops (.m 102 0<|
.m 103 1<|
.m 104 2<|
.k 105 y7 48 [(.t 102), (.t 103), (.t 104)]<|
.nil))))
 (.z (.m 107 0<|
.k 108 .bool 12 [(.t 107), y19]<|
.m 106 108<|
.nil)
 (.cond (.tmp 106) (.seq (.z (.m 109 0<|
.k 110 .bool 12 [(.t 109), y28]<|
.nil)
 (.cond (.tmp 110) (.z (.m 111 1<|
.n 112 111<|
.f 113 0 112<|
.op none .any [113] (.store 1 (.t 113) (.i 7))<|
.nil)
 (.z (.m 114 0<|
.m 115 1<|
.m 116 2<|
.k 117 y7 48 [(.t 114), (.t 115), (.t 116)]<|
.nil)
 .ret))
 .skip))
 (.z (.m 118 1<|
.n 119 118<|
.f 120 0 119<|
.op none .any [120] (.store 1 (.t 120) (.i 10))<|
.nil)
 (.z (.m 121 1<|
.m 122 0<|
.k 123 y2 45 [(.t 122)]<|
.n 124 121<|
.f 125 5 124<|
.op none y2 [125, 123] (.store 6 (.t 125) (.t 123))<|
.nil)
 (.z (.m 126 0<|
.k 127 y7 11 [(.t 126), (.con (V.str ⟨2, 17999⟩))]<|
.nil)
 (.ops (.m 128 1<|
.m 129 0<|
.m 130 2<|
.b 131 .add .none (.t 130) (.i 1)<|
.k 132 .i 15 [(.t 129), (.t 131)]<|
.n 133 128<|
.f 134 15 133<|
.w 1 134 132<|
.nil))))))
 (.z (.f 136 0 6<|
.l 137 .i 136<|
.b 138 .eql .none (.t 137) (.i 1)<|
.m 135 138<|
.nil)
 (.cond (.tmp 135) (.seq (.keep [(0, .ptr), (1, .ptr), (6, .ptr)] [] [] (.gdraw G25_0 H25_0 [(0, .ptr)]))
 (.ops (.m 147 0<|
.k 148 y4 22 [(.t 147)]<|
.nil)))
 (.ops (.m 9 0<|
.O 10 y4 (.load (some 3) (.t 6))<|
.k 11 y7 14 [(.t 9), (.i 7), (.t 10)]<|
.nil))))))))))))))))))))))))))
def T25_0 (a b c d : Nat) (e : Int) (σ : H) : Ans :=
 callK (D 13 [.ptr a b] σ) fun u1 s2 =>
 rtAgg u1 fun l3 =>
 xcI .i64 l3 fun x6 l5 =>
 xcS l5 fun x9 l8 =>
 xcI .i64 l8 fun x12 l11 =>
 rtNil l11 (
 let s13 := newB s2 (.cells [.int .i64 (Int.ofNat 0), .str ⟨0, 0⟩, .int .i64 (Int.ofNat 0)]);
 stK 3 (H.next s2) 0 (V.agg [.int .i64 x6, .str x9, .int .i64 x12]) s13 fun s14 =>
 ldK E s14 a (Nat.add b 7) fun u15 =>
 rtInt .i64 u15 fun x16 =>
 condK (not (eqF x16 (Int.ofNat 0))) (
 some ((V.tup []), s14)) (
 callK (D 12 [.ptr a b, .str (BS.mk 7 22026814072246082)] s14) fun u17 s18 =>
 rtBool u17 fun x19 =>
 condK x19 (
 stK 1 c d (V.int .i64 (Int.ofNat 1)) s18 fun s20 =>
 some ((V.tup []), s20)) (
 callK (D 12 [.ptr a b, .str (BS.mk 4 1280070990)] s18) fun u21 s22 =>
 rtBool u21 fun x23 =>
 condK x23 (
 stK 1 c d (V.int .i64 (Int.ofNat 4)) s22 fun s24 =>
 some ((V.tup []), s24)) (
 callK (D 12 [.ptr a b, .str (BS.mk 10 488440487847103610377301)] s22) fun u25 s26 =>
 rtBool u25 fun x27 =>
 condK x27 (
 stK 1 c d (V.int .i64 (Int.ofNat 6)) s26 fun s28 =>
 callK (D 45 [.ptr a b] s28) fun u29 s30 =>
 rtAgg u29 fun l31 =>
 xcB l31 fun x34 l33 =>
 xcB l33 fun x37 l36 =>
 xcB l36 fun x40 l39 =>
 xcB l39 fun x43 l42 =>
 xcI .i64 l42 fun x46 l45 =>
 xcI .i64 l45 fun x49 l48 =>
 rtNil l48 (
 stK 6 c (Nat.add d 5) (V.agg [.bool x34, .bool x37, .bool x40, .bool x43, .int .i64 x46, .int .i64 x49]) s30 fun s50 =>
 some ((V.tup []), s50))) (
 callK (D 12 [.ptr a b, .str (BS.mk 7 23157120498421321)] s26) fun u51 s52 =>
 rtBool u51 fun x53 =>
 condK x53 (
 stK 1 c d (V.int .i64 (Int.ofNat 2)) s52 fun s54 =>
 callK (D 12 [.ptr a b, .str (BS.mk 1 40)] s54) fun u55 s56 =>
 rtBool u55 fun x57 =>
 condK x57 (
 callK (D 46 [.ptr a b] s56) fun u58 s59 =>
 rtAgg u58 fun l60 =>
 xcB l60 fun x63 l62 =>
 xcB l62 fun x66 l65 =>
 xcB l65 fun x69 l68 =>
 xcB l68 fun x72 l71 =>
 xcI .i64 l71 fun x75 l74 =>
 xcI .i64 l74 fun x78 l77 =>
 rtNil l77 (
 stK 6 c (Nat.add d 5) (V.agg [.bool x63, .bool x66, .bool x69, .bool x72, .int .i64 x75, .int .i64 x78]) s59 fun s79 =>
 callK (D 11 [.ptr a b, .str (BS.mk 1 41)] s79) fun u80 s81 =>
 rtTup u80 fun l82 =>
 rtNil l82 (
 some ((V.tup []), s81)))) (
 some ((V.tup []), s56))) (
 callK (D 12 [.ptr a b, .str (BS.mk 5 361940403023)] s52) fun u83 s84 =>
 rtBool u83 fun x85 =>
 condK x85 (
 callK (D 11 [.ptr a b, .str (BS.mk 6 78401563153491)] s84) fun u86 s87 =>
 rtTup u86 fun l88 =>
 rtNil l88 (
 stK 1 c d (V.int .i64 (Int.ofNat 5)) s87 fun s89 =>
 callK (D 45 [.ptr a b] s89) fun u90 s91 =>
 rtAgg u90 fun l92 =>
 xcB l92 fun x95 l94 =>
 xcB l94 fun x98 l97 =>
 xcB l97 fun x101 l100 =>
 xcB l100 fun x104 l103 =>
 xcI .i64 l103 fun x107 l106 =>
 xcI .i64 l106 fun x110 l109 =>
 rtNil l109 (
 stK 6 c (Nat.add d 5) (V.agg [.bool x95, .bool x98, .bool x101, .bool x104, .int .i64 x107, .int .i64 x110]) s91 fun s111 =>
 some ((V.tup []), s111)))) (
 callK (D 12 [.ptr a b, .str (BS.mk 10 322399817400452109389381)] s84) fun u112 s113 =>
 rtBool u112 fun x114 =>
 condK x114 (
 stK 1 c d (V.int .i64 (Int.ofNat 3)) s113 fun s115 =>
 callK (D 11 [.ptr a b, .str (BS.mk 1 123)] s115) fun u116 s117 =>
 rtTup u116 fun l118 =>
 rtNil l118 (
 callK (D 47 [.ptr a b, .ptr c d] s117) fun u119 s120 =>
 rtTup u119 fun l121 =>
 rtNil l121 (
 callK (D 11 [.ptr a b, .str (BS.mk 1 125)] s120) fun u122 s123 =>
 rtTup u122 fun l124 =>
 rtNil l124 (
 some ((V.tup []), s123))))) (
 callK (D 12 [.ptr a b, .str (BS.mk 3 5522771)] s113) fun u125 s126 =>
 rtBool u125 fun x127 =>
 condK x127 (
 stK 1 c d (V.int .i64 (Int.ofNat 8)) s126 fun s128 =>
 callK (D 11 [.ptr a b, .str (BS.mk 1 123)] s128) fun u129 s130 =>
 rtTup u129 fun l131 =>
 rtNil l131 (
 callK (D 48 [.ptr a b, .ptr c d, .int .i64 e] s130) fun u132 s133 =>
 rtTup u132 fun l134 =>
 rtNil l134 (
 some ((V.tup []), s133)))) (
 callK (D 12 [.ptr a b, .str (BS.mk 6 76155295057987)] s126) fun u135 s136 =>
 rtBool u135 fun x137 =>
 condK x137 (
 stK 1 c d (V.int .i64 (Int.ofNat 9)) s136 fun s138 =>
 callK (D 11 [.ptr a b, .str (BS.mk 1 123)] s138) fun u139 s140 =>
 rtTup u139 fun l141 =>
 rtNil l141 (
 callK (D 48 [.ptr a b, .ptr c d, .int .i64 e] s140) fun u142 s143 =>
 rtTup u142 fun l144 =>
 rtNil l144 (
 some ((V.tup []), s143)))) (
 callK (D 12 [.ptr a b, .str (BS.mk 8 4990918871747741011)] s136) fun u145 s146 =>
 rtBool u145 fun x147 =>
 condK x147 (
 callK (D 12 [.ptr a b, .str (BS.mk 1 123)] s146) fun u148 s149 =>
 rtBool u148 fun x150 =>
 condK x150 (
 stK 1 c d (V.int .i64 (Int.ofNat 7)) s149 fun s151 =>
 callK (D 48 [.ptr a b, .ptr c d, .int .i64 e] s151) fun u152 s153 =>
 rtTup u152 fun l154 =>
 rtNil l154 (
 some ((V.tup []), s153))) (
 stK 1 c d (V.int .i64 (Int.ofNat 10)) s149 fun s155 =>
 callK (D 45 [.ptr a b] s155) fun u156 s157 =>
 rtAgg u156 fun l158 =>
 xcB l158 fun x161 l160 =>
 xcB l160 fun x164 l163 =>
 xcB l163 fun x167 l166 =>
 xcB l166 fun x170 l169 =>
 xcI .i64 l169 fun x173 l172 =>
 xcI .i64 l172 fun x176 l175 =>
 rtNil l175 (
 stK 6 c (Nat.add d 5) (V.agg [.bool x161, .bool x164, .bool x167, .bool x170, .int .i64 x173, .int .i64 x176]) s157 fun s177 =>
 callK (D 11 [.ptr a b, .str (BS.mk 2 17999)] s177) fun u178 s179 =>
 rtTup u178 fun l180 =>
 rtNil l180 (
 callK (D 15 [.ptr a b, .int .i64 (addF .i64 e (Int.ofNat 1))] s179) fun u181 s182 =>
 rtInt .i64 u181 fun x183 =>
 stK 1 c (Nat.add d 15) (V.int .i64 x183) s182 fun s184 =>
 some ((V.tup []), s184))))) (
 ldK E s146 (H.next s2) 0 fun u185 =>
 rtInt .i64 u185 fun x186 =>
 condK (eqF x186 (Int.ofNat 1)) (
 gdrawK (W G25_0 H25_0 [(0, .ptr a b), (1, .ptr c d), (6, .ptr (H.next s2) 0)] s146) fun e187 s188 =>
 getL e187 0 fun u189 =>
 rtPtr u189 fun b190 o191 =>
 callK (D 22 [.ptr b190 o191] s188) fun u192 s193 =>
 rtAgg u192 fun l194 =>
 xcI .i64 l194 fun x197 l196 =>
 xcS l196 fun x200 l199 =>
 xcI .i64 l199 fun x203 l202 =>
 rtNil l202 (
 some ((V.tup []), s193))) (
 ldnK E s146 (H.next s2) 0 3 fun l204 =>
 xcI .i64 l204 fun x207 l206 =>
 xcS l206 fun x210 l209 =>
 xcI .i64 l209 fun x213 l212 =>
 rtNil l212 (
 callK (D 14 [.ptr a b, .int .i64 (Int.ofNat 7), .agg [.int .i64 x207, .str x210, .int .i64 x213]] s146) fun u214 s215 =>
 rtTup u214 fun l216 =>
 rtNil l216 (
 some ((V.tup []), s215)))))))))))))))
def F25 (N : Nat) (args : List V) (σ : H) : Ans :=
 rtCons args fun x1 l2 =>
 rtPtr x1 fun b3 o4 =>
 rtCons l2 fun x5 l6 =>
 rtPtr x5 fun b7 o8 =>
 xcI .i64 l6 fun x11 l10 =>
 rtNil l10 (
 T25_0 E D W b3 o4 b7 o8 x11 σ)
def A25 : XFn := ⟨149, [.ptr, .ptr, .i], [], C25_0⟩
theorem FE25 (args : List V) (σ : H) : runX E D W N A25 args σ = F25 E D W N args σ := by kernel_rfl

/-! ### F31: __ogham_print.printer_.mark -/
def C31_0 : XC := (.z (.P 3 (.box 65 (.t 1))<|
.nil)
 (.seq (.z (.f 4 0 3<|
.l 5 .bool 4<|
.P 6 (.un .not (.t 5))<|
.nil)
 (.cond (.tmp 6) .ret
 .skip))
 (.z (.m 7 0<|
.n 8 7<|
.f 9 0 8<|
.p 10 [] (.buildSlice 9 1 [y1] [(0, 1, (.con (V.str ⟨1, 91⟩)))])<|
.k 11 y7 18 [(.t 9), (.t 10)]<|
.nil)
 (.seq (.draw (.m 12 0<|
.n 13 12<|
.f 14 0 13<|
.f 15 1 3<|
.l 16 .i 15<|
.k 17 y7 54 [(.t 14), (.t 16)]<|
.nil) [0, 1, 3, 0, 8, 31])
 (.z (.m 18 0<|
.n 19 18<|
.f 20 0 19<|
.p 21 [] (.buildSlice 9 1 [y1] [(0, 1, (.con (V.str ⟨2, 8285⟩)))])<|
.k 22 y7 18 [(.t 20), (.t 21)]<|
.nil)
 (.z (.f 23 2 3<|
.l 24 .i 23<|
.nil)
 (.block 0 (.z (.b 26 .eql .none (.t 24) (.i 1)<|
.m 25 26<|
.nil)
 (.cond (.tmp 25) (.ops (.m 27 0<|
.n 28 27<|
.f 29 0 28<|
.p 30 [] (.buildSlice 9 1 [y1] [(0, 1, (.con (V.str ⟨9, 596369269913283483717⟩)))])<|
.k 31 y7 18 [(.t 29), (.t 30)]<|
.nil))
 (.z (.b 33 .eql .none (.t 24) (.i 2)<|
.m 32 33<|
.nil)
 (.cond (.tmp 32) (.ops (.m 34 0<|
.n 35 34<|
.f 36 0 35<|
.p 37 [] (.buildSlice 9 1 [y1] [(0, 1, (.con (V.str ⟨9, 596369269913283480905⟩)))])<|
.k 38 y7 18 [(.t 36), (.t 37)]<|
.nil))
 .skip)))))))))))
def T31_0 (E : List (Nat × Blk)) (D : Den) (W : DrawFn) (a b : Nat) (c : Bool) (d e : Int) (σ : H) : Ans :=
 nbK [.bool c, .int .i64 d, .int .i64 e] σ fun s1 =>
 ldK E s1 (H.next σ) 0 fun u2 =>
 rtBool u2 fun x3 =>
 condK (not x3) (
 some ((V.tup []), s1)) (
 let s4 := newB s1 (.cells [.str (BS.mk 1 91)]);
 callK (D 18 [.ptr a b, .sl (H.next s1) 0 1 (.ex 1)] s4) fun u5 s6 =>
 rtTup u5 fun l7 =>
 rtNil l7 (
 ldK E s6 (H.next σ) 1 fun u8 =>
 rtInt .i64 u8 fun x9 =>
 callK (D 54 [.ptr a b, .int .i64 x9] s6) fun u10 s11 =>
 rtTup u10 fun l12 =>
 rtNil l12 (
 let s13 := newB s11 (.cells [.str (BS.mk 2 8285)]);
 callK (D 18 [.ptr a b, .sl (H.next s11) 0 1 (.ex 1)] s13) fun u14 s15 =>
 rtTup u14 fun l16 =>
 rtNil l16 (
 ldK E s15 (H.next σ) 2 fun u17 =>
 rtInt .i64 u17 fun x18 =>
 condK (eqF x18 (Int.ofNat 1)) (
 let s19 := newB s15 (.cells [.str (BS.mk 9 596369269913283483717)]);
 callK (D 18 [.ptr a b, .sl (H.next s15) 0 1 (.ex 1)] s19) fun u20 s21 =>
 rtTup u20 fun l22 =>
 rtNil l22 (
 some ((V.tup []), s21))) (
 condK (eqF x18 (Int.ofNat 2)) (
 let s23 := newB s15 (.cells [.str (BS.mk 9 596369269913283480905)]);
 callK (D 18 [.ptr a b, .sl (H.next s15) 0 1 (.ex 1)] s23) fun u24 s25 =>
 rtTup u24 fun l26 =>
 rtNil l26 (
 some ((V.tup []), s25))) (
 some ((V.tup []), s15)))))))
def F31 (N : Nat) (args : List V) (σ : H) : Ans :=
 rtCons args fun x1 l2 =>
 rtPtr x1 fun b3 o4 =>
 rtCons l2 fun x5 l6 =>
 rtAgg x5 fun l7 =>
 xcB l7 fun x10 l9 =>
 xcI .i64 l9 fun x13 l12 =>
 xcI .i64 l12 fun x16 l15 =>
 rtNil l15 (
 rtNil l6 (
 T31_0 E D W b3 o4 x10 x13 x16 σ))
def A31 : XFn := ⟨39, [.ptr, (.agg [.bool, .i, .i])], [], C31_0⟩
theorem FE31 (args : List V) (σ : H) : runX E D W N A31 args σ = F31 E D W N args σ := by kernel_rfl

/-! ### F32: __ogham_print.printer_.con -/
def C32_0 : XC := (.z (.P 5 (.box 67 (.t 1))<|
.nil)
 (.seq (.z (.f 8 0 5<|
.l 9 .bool 8<|
.P 10 (.un .not (.t 9))<|
.nil)
 (.cond (.tmp 10) .ret
 .skip))
 (.z (.m 11 0<|
.n 12 11<|
.f 13 0 12<|
.m 14 2<|
.p 15 [14] (.buildSlice 9 1 [y1] [(0, 1, (.t 14))])<|
.k 16 y7 18 [(.t 13), (.t 15)]<|
.nil)
 (.z (.m 17 0<|
.O 18 y2 (.load (some 6) (.t 5))<|
.k 19 y7 55 [(.t 17), (.t 18)]<|
.nil)
 (.ops (.m 20 0<|
.n 21 20<|
.f 22 0 21<|
.m 23 3<|
.p 24 [23] (.buildSlice 9 1 [y1] [(0, 1, (.t 23))])<|
.k 25 y7 18 [(.t 22), (.t 24)]<|
.nil))))))
def T32_0 (E : List (Nat × Blk)) (D : Den) (W : DrawFn) (a b : Nat) (c d e f : Bool) (g h : Int) (i j : BS) (σ : H) : Ans :=
 nbK [.bool c, .bool d, .bool e, .bool f, .int .i64 g, .int .i64 h] σ fun s1 =>
 ldK E s1 (H.next σ) 0 fun u2 =>
 rtBool u2 fun x3 =>
 condK (not x3) (
 some ((V.tup []), s1)) (
 let s4 := newB s1 (.cells [.str i]);
 callK (D 18 [.ptr a b, .sl (H.next s1) 0 1 (.ex 1)] s4) fun u5 s6 =>
 rtTup u5 fun l7 =>
 rtNil l7 (
 ldnK E s6 (H.next σ) 0 6 fun l8 =>
 xcB l8 fun x11 l10 =>
 xcB l10 fun x14 l13 =>
 xcB l13 fun x17 l16 =>
 xcB l16 fun x20 l19 =>
 xcI .i64 l19 fun x23 l22 =>
 xcI .i64 l22 fun x26 l25 =>
 rtNil l25 (
 callK (D 55 [.ptr a b, .agg [.bool x11, .bool x14, .bool x17, .bool x20, .int .i64 x23, .int .i64 x26]] s6) fun u27 s28 =>
 rtTup u27 fun l29 =>
 rtNil l29 (
 let s30 := newB s28 (.cells [.str j]);
 callK (D 18 [.ptr a b, .sl (H.next s28) 0 1 (.ex 1)] s30) fun u31 s32 =>
 rtTup u31 fun l33 =>
 rtNil l33 (
 some ((V.tup []), s32))))))
def F32 (N : Nat) (args : List V) (σ : H) : Ans :=
 rtCons args fun x1 l2 =>
 rtPtr x1 fun b3 o4 =>
 rtCons l2 fun x5 l6 =>
 rtAgg x5 fun l7 =>
 xcB l7 fun x10 l9 =>
 xcB l9 fun x13 l12 =>
 xcB l12 fun x16 l15 =>
 xcB l15 fun x19 l18 =>
 xcI .i64 l18 fun x22 l21 =>
 xcI .i64 l21 fun x25 l24 =>
 rtNil l24 (
 xcS l6 fun x28 l27 =>
 xcS l27 fun x31 l30 =>
 rtNil l30 (
 T32_0 E D W b3 o4 x10 x13 x16 x19 x22 x25 x28 x31 σ))
def A32 : XFn := ⟨26, [.ptr, y2, .str, .str], [], C32_0⟩
theorem FE32 (args : List V) (σ : H) : runX E D W N A32 args σ = F32 E D W N args σ := by kernel_rfl

/-! ### F35: ogham_oghamref04.at -/
def C35_0 : XC := (.z (.c 4 y6<|
.nil)
 (.seq (.z (.m 5 1<|
.b 6 .lss .none (.t 5) (.i 0)<|
.m 7 6<|
.gO 7 false (.p 8 [1, 7] y13<|
.p 9 [0, 7] y10<|
.p 10 [9, 7] (.len true (.t 9))<|
.p 11 [8, 10, 7] (.bin .geq .none (.t 8) (.t 10))<|
.nil) 12 7 11<|
.nil)
 (.cond (.tmp 12) (.z (.c 4 y6<|
.nil)
 .ret)
 .skip))
 (.z (.m 13 0<|
.m 14 1<|
.P 15 (.idxStr (.t 13) (.t 14))<|
.m 4 15<|
.nil)
 .ret)))
def T35_0 (E : List (Nat × Blk)) (D : Den) (W : DrawFn) (a : BS) (b : Int) (σ : H) : Ans :=
 joinB (fun c1 s2 =>
 condK c1 (
 some ((V.int .u8 (Int.ofNat 0)), s2)) (
 idxStrX a b fun x4 =>
 some ((V.int .u8 x4), s2))) fun k3 =>
 condK (ltF b (Int.ofNat 0)) (
 k3 true σ) (
 k3 (leF (Int.ofNat (BS.len a)) b) σ)
def F35 (N : Nat) (args : List V) (σ : H) : Ans :=
 xcS args fun x3 l2 =>
 xcI .i64 l2 fun x6 l5 =>
 rtNil l5 (
 T35_0 E D W x3 x6 σ)
def A35 : XFn := ⟨16, [.str, .i], [(.tmp 4)], C35_0⟩
theorem FE35 (args : List V) (σ : H) : runX E D W N A35 args σ = F35 E D W N args σ := by kernel_rfl

/-! ### F36: ogham_oghamref04.letter -/
def C36_0 : XC := (.z (.c 2 y5<|
.nil)
 (.z (.m 3 0<|
.b 4 .geq .none (.t 3) (.con (V.int .u8 (Int.ofNat 97)))<|
.m 5 4<|
.gA 5 true (.p 6 [0, 5] y10<|
.p 7 [6, 5] (.bin .leq .none (.t 6) (.con (V.int .u8 (Int.ofNat 122))))<|
.nil) 8 5 7<|
.m 9 8<|
.gO 9 false (.p 10 [0, 9] y10<|
.p 11 [10, 9] (.bin .geq .none (.t 10) (.con (V.int .u8 (Int.ofNat 65))))<|
.p 12 [11, 9] (.mov (.t 11))<|
.grp 12 true (.p 13 [0, 12] y10<|
.p 14 [13, 12] (.bin .leq .none (.t 13) (.con (V.int .u8 (Int.ofNat 90))))<|
.nil) 15 [12, 14, 9] (.t 12) (.t 14) (.con y5)<|
.nil) 16 9 15<|
.m 2 16<|
.nil)
 .ret))
def T36_0 (E : List (Nat × Blk)) (D : Den) (W : DrawFn) (a : Int) (σ : H) : Ans :=
 joinB (fun c1 s2 =>
 joinB (fun c4 s5 =>
 some ((V.bool c4), s5)) fun k6 =>
 condK c1 (
 k6 true s2) (
 joinB (fun c7 s8 =>
 k6 c7 s8) fun k9 =>
 condK (leF (Int.ofNat 65) a) (
 k9 (leF a (Int.ofNat 90)) s2) (
 k9 false s2))) fun k3 =>
 condK (leF (Int.ofNat 97) a) (
 k3 (leF a (Int.ofNat 122)) σ) (
 k3 false σ)
def F36 (N : Nat) (args : List V) (σ : H) : Ans :=
 xcI .u8 args fun x3 l2 =>
 rtNil l2 (
 T36_0 E D W x3 σ)
def A36 : XFn := ⟨17, [(.int .u8)], [(.tmp 2)], C36_0⟩
theorem FE36 (args : List V) (σ : H) : runX E D W N A36 args σ = F36 E D W N args σ := by kernel_rfl

/-! ### F37: ogham_oghamref04.name -/
def q37a : List (Nat × XTy) := [(0, .str), (1, .i), (5, .i)]
def Fin37 (E : List (Nat × Blk)) : St → Ans := fun s => resK E s [(.tmp 4)] fun l => some (oneV l, s.σ)
def b37a (c0 : XC) : Nat → St → Ans := blkK 0 (dX E D W N (.keep q37a [] [] c0) (Fin37 E) nX (Fin37 E)) nX
def C37_0 (cc1 : XC) (cc2 : XC) : XC := (.z (.q 4 0<|
.nil)
 (.z (.m 6 1<|
.m 5 6<|
.nil)
 (.seq (.block 0 (.loop q37a [] [] cc2))
 (.keep q37a [] [] cc1))))
def T37_0 (E : List (Nat × Blk)) (D : Den) (W : DrawFn) (K2 : BS → Int → Int → H → Ans) (a : BS) (b : Int) (σ : H) : Ans :=
 K2 a b b σ
def C37_1 : XC := (.seq (.z (.m 38 0<|
.m 39 1<|
.b 40 .sub .none (.t 39) (.i 1)<|
.P 41 (.idxStr (.t 38) (.t 40))<|
.b 42 .eql .none (.t 41) y8<|
.m 43 42<|
.gO 43 false (.p 44 [1, 43] y13<|
.p 45 [5, 43] (.mov (.t 5))<|
.p 46 [44, 45, 43] (.bin .sub .none (.t 44) (.t 45))<|
.p 47 [46, 43] (.bin .gtr .none (.t 46) (.i 60))<|
.nil) 48 43 47<|
.nil)
 (.cond (.tmp 48) (.z (.c 4 y23<|
.nil)
 .ret)
 .skip))
 (.z (.m 49 1<|
.m 4 49<|
.nil)
 .ret))
def T37_1 (E : List (Nat × Blk)) (D : Den) (W : DrawFn) (a : BS) (b c : Int) (σ : H) : Ans :=
 idxStrX a (subF .i64 b (Int.ofNat 1)) fun x1 =>
 joinB (fun c2 s3 =>
 condK c2 (
 some ((V.int .i64 (Int.negSucc 0)), s3)) (
 some ((V.int .i64 b), s3))) fun k4 =>
 condK (eqF x1 (Int.ofNat 45)) (
 k4 true σ) (
 k4 (ltF (Int.ofNat 60) (subF .i64 b c)) σ)
def C37_2 : XC := (.seq (.z (.m 7 1<|
.m 8 0<|
.P 9 (.len true (.t 8))<|
.b 10 .lss .none (.t 7) (.t 9)<|
.m 11 10<|
.gA 11 true (.p 12 [0, 11] y10<|
.p 13 [1, 11] y13<|
.p 14 [12, 13, 11] (.idxStr (.t 12) (.t 13))<|
.op (some 15) .bool [14, 11] (.call 36 [(.t 14)])<|
.p 16 [15, 11] (.mov (.t 15))<|
.grp 16 false (.p 17 [0, 16] y10<|
.p 18 [1, 16] y13<|
.p 19 [17, 18, 16] (.idxStr (.t 17) (.t 18))<|
.op (some 20) .bool [19, 16] (.call 39 [(.t 19)])<|
.nil) 21 [16, 20, 11] (.t 16) y12 (.t 20)<|
.p 22 [21, 11] (.mov (.t 21))<|
.grp 22 false (.p 23 [0, 22] y10<|
.p 24 [1, 22] y13<|
.p 25 [23, 24, 22] (.idxStr (.t 23) (.t 24))<|
.p 26 [25, 22] (.bin .eql .none (.t 25) y8)<|
.p 27 [26, 22] (.mov (.t 26))<|
.grp 27 true (.p 28 [0, 27] y10<|
.p 29 [1, 27] y13<|
.p 30 [29, 27] (.bin .add .none (.t 29) (.i 1))<|
.op (some 31) (.int .u8) [28, 30, 27] (.call 35 [(.t 28), (.t 30)])<|
.p 32 [31, 27] (.bin .neq .none (.t 31) y8)<|
.nil) 33 [27, 32, 22] (.t 27) (.t 32) (.con y5)<|
.nil) 34 [22, 33, 11] (.t 22) y12 (.t 33)<|
.nil) 35 11 34<|
.nil)
 (.cond (.tmp 35) .skip
 (.exit 0)))
 (.block 1 (.ops (.m 36 1<|
.b 37 .add .none (.t 36) (.i 1)<|
.m 1 37<|
.nil))))
def T37_2 (E : List (Nat × Blk)) (D : Den) (W : DrawFn) (K1 : BS → Int → Int → H → Ans) (R2 : BS → Int → Int → H → Ans) (a : BS) (b c : Int) (σ : H) : Ans :=
 joinB (fun c1 s2 =>
 condK c1 (
 R2 a (addF .i64 b (Int.ofNat 1)) c s2) (
 K1 a b c s2)) fun k3 =>
 condK (ltF b (Int.ofNat (BS.len a))) (
 idxStrX a b fun x4 =>
 callK (D 36 [.int .u8 x4] σ) fun u5 s6 =>
 rtBool u5 fun x7 =>
 joinB (fun c8 s9 =>
 joinB (fun c11 s12 =>
 k3 c11 s12) fun k13 =>
 condK c8 (
 k13 true s9) (
 idxStrX a b fun x14 =>
 joinB (fun c15 s16 =>
 k13 c15 s16) fun k17 =>
 condK (eqF x14 (Int.ofNat 45)) (
 callK (D 35 [.str a, .int .i64 (addF .i64 b (Int.ofNat 1))] s9) fun u18 s19 =>
 rtInt .u8 u18 fun x20 =>
 k17 (not (eqF x20 (Int.ofNat 45))) s19) (
 k17 false s9))) fun k10 =>
 condK x7 (
 k10 true s6) (
 idxStrX a b fun x21 =>
 callK (D 39 [.int .u8 x21] s6) fun u22 s23 =>
 rtBool u22 fun x24 =>
 k10 x24 s23)) (
 k3 false σ)
def S37_0 (a : BS) (b : Int) (σ : H) : St := ⟨[(0, .str a), (1, .int .i64 b)], [], [], σ⟩
def S37_1 (a : BS) (b c : Int) (σ : H) : St := ⟨[(0, .str a), (1, .int .i64 b), (5, .int .i64 c)], [], [], σ⟩
theorem P37_0 (cc1 : XC) (cc2 : XC) (a : BS) (b : Int) (σ : H) :
  denC E D W N (C37_0 cc1 cc2) (S37_0 a b σ) (Fin37 E) nX (Fin37 E) =
  T37_0 E D W (fun a b c σ => iterK (fun rec s' => denC E D W N cc2 s' (kX q37a [] [] rec) (b37a E D W N cc1) (Fin37 E)) N (S37_1 a b c σ)) a b σ := by kernel_rfl
theorem P37_2 (cc1 : XC) (li2 : St → Ans) (a : BS) (b c : Int) (σ : H) :
  denC E D W N (C37_2 ) (S37_1 a b c σ) (kX q37a [] [] li2) (b37a E D W N cc1) (Fin37 E) =
  T37_2 E D W (fun a b c σ => denC E D W N cc1 (S37_1 a b c σ) (Fin37 E) nX (Fin37 E)) (fun a b c σ => li2 (S37_1 a b c σ)) a b c σ := by kernel_rfl
def J37_1 (E : List (Nat × Blk)) (D : Den) (W : DrawFn) (N : Nat) := T37_1 E D W 
theorem JE37_1 (a : BS) (b c : Int) (σ : H) :
  denC E D W N C37_1 (S37_1 a b c σ) (Fin37 E) nX (Fin37 E) = J37_1 E D W N a b c σ := by kernel_rfl
def L37_2 (n : Nat) : BS → Int → Int → H → Ans :=
  Nat.rec (fun _ _ _ _ => none) (fun _ ih => T37_2 E D W (J37_1 E D W N ) ih) n
theorem LE37_2 (n : Nat) : ∀ (a : BS) (b c : Int) (σ : H),
  iterK (fun rec s' => denC E D W N C37_2 s' (kX q37a [] [] rec) (b37a E D W N C37_1) (Fin37 E)) n (S37_1 a b c σ) = L37_2 E D W N n a b c σ := by
  induction n with
  | zero => intro a b c σ; rfl
  | succ n ihn =>
    intro a b c σ
    rw [iterK_succ]
    refine (P37_2 E D W N C37_1 (iterK (fun rec s' => denC E D W N C37_2 s' (kX q37a [] [] rec) (b37a E D W N C37_1) (Fin37 E)) n) a b c σ).trans ?_
    simp only [ihn, JE37_1]
    kernel_rfl
def J37_0 := T37_0 E D W (L37_2 E D W N N)
theorem JE37_0 (a : BS) (b : Int) (σ : H) :
  denC E D W N (C37_0 C37_1 C37_2) (S37_0 a b σ) (Fin37 E) nX (Fin37 E) = J37_0 E D W N a b σ := by
  refine (P37_0 E D W N C37_1 C37_2  a b σ).trans ?_
  simp only [LE37_2]
  kernel_rfl
def F37 (args : List V) (σ : H) : Ans :=
 xcS args fun x3 l2 =>
 xcI .i64 l2 fun x6 l5 =>
 rtNil l5 (
 J37_0 E D W N x3 x6 σ)
def A37 : XFn := ⟨50, [.str, .i], [(.tmp 4)], (C37_0 C37_1 C37_2)⟩
theorem FE37 (args : List V) (σ : H) : runX E D W N A37 args σ = F37 E D W N args σ := by
  unfold F37
  simp only [← JE37_0]
  kernel_rfl

/-! ### F38: ogham_oghamref04.Word -/
def C38_0 : XC := (.z (.c 2 y5<|
.nil)
 (.z (.k 3 .one 60 []<|
.m 4 0<|
.k 5 .bool 59 [(.t 3), (.t 4)]<|
.m 2 5<|
.nil)
 .ret))
def T38_0 (E : List (Nat × Blk)) (D : Den) (W : DrawFn) (a : BS) (σ : H) : Ans :=
 callK (D 60 [] σ) fun u1 s2 =>
 rtOne u1 (
 callK (D 59 [u1, .str a] s2) fun u3 s4 =>
 rtBool u3 fun x5 =>
 some ((V.bool x5), s4))
def F38 (N : Nat) (args : List V) (σ : H) : Ans :=
 xcS args fun x3 l2 =>
 rtNil l2 (
 T38_0 E D W x3 σ)
def A38 : XFn := ⟨6, [.str], [(.tmp 2)], C38_0⟩
theorem FE38 (args : List V) (σ : H) : runX E D W N A38 args σ = F38 E D W N args σ := by kernel_rfl

/-! ### F39: ogham_oghamref04.digit -/
def C39_0 : XC := (.z (.c 2 y5<|
.nil)
 (.z (.m 3 0<|
.b 4 .geq .none (.t 3) y17<|
.m 5 4<|
.gA 5 true (.p 6 [0, 5] y10<|
.p 7 [6, 5] (.bin .leq .none (.t 6) (.con (V.int .u8 (Int.ofNat 57))))<|
.nil) 8 5 7<|
.m 2 8<|
.nil)
 .ret))
def T39_0 (E : List (Nat × Blk)) (D : Den) (W : DrawFn) (a : Int) (σ : H) : Ans :=
 joinB (fun c1 s2 =>
 some ((V.bool c1), s2)) fun k3 =>
 condK (leF (Int.ofNat 48) a) (
 k3 (leF a (Int.ofNat 57)) σ) (
 k3 false σ)
def F39 (N : Nat) (args : List V) (σ : H) : Ans :=
 xcI .u8 args fun x3 l2 =>
 rtNil l2 (
 T39_0 E D W x3 σ)
def A39 : XFn := ⟨9, [(.int .u8)], [(.tmp 2)], C39_0⟩
theorem FE39 (args : List V) (σ : H) : runX E D W N A39 args σ = F39 E D W N args σ := by kernel_rfl

/-! ### F40: ogham_oghamref04.number -/
def q40a : List (Nat × XTy) := [(0, .str), (1, .i), (5, .bool), (6, .i), (7, (.int .u64))]
def Fin40 (E : List (Nat × Blk)) : St → Ans := fun s => resK E s [(.tmp 4)] fun l => some (oneV l, s.σ)
def b40a (c0 : XC) : Nat → St → Ans := blkK 0 (dX E D W N (.keep q40a [] [] c0) (Fin40 E) nX (Fin40 E)) nX
def C40_0 (cc1 : XC) : XC := (.z (.q 4 0<|
.nil)
 (.z (.m 9 0<|
.m 10 1<|
.P 11 (.idxStr (.t 9) (.t 10))<|
.b 12 .eql .none (.t 11) y8<|
.m 5 12<|
.nil)
 (.seq (.z (.m 13 5<|
.nil)
 (.cond (.tmp 13) (.ops (.m 14 1<|
.b 15 .add .none (.t 14) (.i 1)<|
.m 1 15<|
.nil))
 .skip))
 (.keep [(0, .str), (1, .i), (5, .bool)] [] [] cc1))))
def T40_0 (E : List (Nat × Blk)) (D : Den) (W : DrawFn) (K1 : BS → Int → Bool → H → Ans) (a : BS) (b : Int) (σ : H) : Ans :=
 idxStrX a b fun x1 =>
 condK (eqF x1 (Int.ofNat 45)) (
 K1 a (addF .i64 b (Int.ofNat 1)) (eqF x1 (Int.ofNat 45)) σ) (
 K1 a b (eqF x1 (Int.ofNat 45)) σ)
def C40_1 (cc2 : XC) (cc3 : XC) : XC := (.z (.m 16 1<|
.m 6 16<|
.nil)
 (.z (.c 7 (V.int .u64 (Int.ofNat 0))<|
.nil)
 (.seq (.block 0 (.loop q40a [] [] cc3))
 (.keep q40a [] [] cc2))))
def T40_1 (E : List (Nat × Blk)) (D : Den) (W : DrawFn) (K3 : BS → Int → Bool → Int → Int → H → Ans) (a : BS) (b : Int) (c : Bool) (σ : H) : Ans :=
 K3 a b c b (Int.ofNat 0) σ
def C40_2 : XC := (.z (.m 41 1<|
.m 42 6<|
.b 43 .sub .none (.t 41) (.t 42)<|
.m 8 43<|
.nil)
 (.seq (.z (.m 44 8<|
.b 45 .lss .none (.t 44) (.i 1)<|
.m 46 45<|
.gO 46 false (.p 47 [8, 46] (.mov (.t 8))<|
.p 48 [47, 46] (.bin .gtr .none (.t 47) (.i 19))<|
.nil) 49 46 48<|
.m 50 49<|
.gO 50 false (.p 51 [8, 50] (.mov (.t 8))<|
.p 52 [51, 50] (.bin .gtr .none (.t 51) (.i 1))<|
.p 53 [52, 50] (.mov (.t 52))<|
.grp 53 true (.p 54 [0, 53] y10<|
.p 55 [6, 53] (.mov (.t 6))<|
.p 56 [54, 55, 53] (.idxStr (.t 54) (.t 55))<|
.p 57 [56, 53] (.bin .eql .none (.t 56) y17)<|
.nil) 58 [53, 57, 50] (.t 53) (.t 57) (.con y5)<|
.nil) 59 50 58<|
.m 60 59<|
.gO 60 false (.p 61 [5, 60] (.mov (.t 5))<|
.p 62 [61, 60] (.mov (.t 61))<|
.grp 62 true (.p 63 [0, 62] y10<|
.p 64 [6, 62] (.mov (.t 6))<|
.p 65 [63, 64, 62] (.idxStr (.t 63) (.t 64))<|
.p 66 [65, 62] (.bin .eql .none (.t 65) y17)<|
.nil) 67 [62, 66, 60] (.t 62) (.t 66) (.con y5)<|
.nil) 68 60 67<|
.m 69 68<|
.gO 69 false (.p 70 [0, 69] y10<|
.p 71 [1, 69] y13<|
.op (some 72) (.int .u8) [70, 71, 69] (.call 35 [(.t 70), (.t 71)])<|
.op (some 73) .bool [72, 69] (.call 36 [(.t 72)])<|
.nil) 74 69 73<|
.m 75 74<|
.gO 75 false (.p 76 [7, 75] (.mov (.t 7))<|
.p 77 [76, 75] (.bin .gtr .none (.t 76) (.con (V.int .u64 (Int.ofNat 9223372036854775808))))<|
.nil) 78 75 77<|
.m 79 78<|
.gO 79 false (.p 80 [5, 79] (.mov (.t 5))<|
.p 81 [80, 79] (.un .not (.t 80))<|
.p 82 [81, 79] (.mov (.t 81))<|
.grp 82 true (.p 83 [7, 82] (.mov (.t 7))<|
.p 84 [83, 82] (.bin .eql .none (.t 83) (.con (V.int .u64 (Int.ofNat 9223372036854775808))))<|
.nil) 85 [82, 84, 79] (.t 82) (.t 84) (.con y5)<|
.nil) 86 79 85<|
.nil)
 (.cond (.tmp 86) (.z (.c 4 y23<|
.nil)
 .ret)
 .skip))
 (.z (.m 87 1<|
.m 4 87<|
.nil)
 .ret)))
def T40_2 (E : List (Nat × Blk)) (D : Den) (W : DrawFn) (a : BS) (b : Int) (c : Bool) (d e : Int) (σ : H) : Ans :=
 joinB (fun c1 s2 =>
 joinB (fun c4 s5 =>
 joinB (fun c7 s8 =>
 joinB (fun c10 s11 =>
 joinB (fun c13 s14 =>
 joinB (fun c16 s17 =>
 condK c16 (
 some ((V.int .i64 (Int.negSucc 0)), s17)) (
 some ((V.int .i64 b), s17))) fun k18 =>
 condK c13 (
 k18 true s14) (
 joinB (fun c19 s20 =>
 k18 c19 s20) fun k21 =>
 condK (not c) (
 k21 (eqF e (Int.ofNat 9223372036854775808)) s14) (
 k21 false s14))) fun k15 =>
 condK c10 (
 k15 true s11) (
 k15 (ltF (Int.ofNat 9223372036854775808) e) s11)) fun k12 =>
 condK c7 (
 k12 true s8) (
 callK (D 35 [.str a, .int .i64 b] s8) fun u22 s23 =>
 rtInt .u8 u22 fun x24 =>
 callK (D 36 [.int .u8 x24] s23) fun u25 s26 =>
 rtBool u25 fun x27 =>
 k12 x27 s26)) fun k9 =>
 condK c4 (
 k9 true s5) (
 joinB (fun c28 s29 =>
 k9 c28 s29) fun k30 =>
 condK c (
 idxStrX a d fun x31 =>
 k30 (eqF x31 (Int.ofNat 48)) s5) (
 k30 false s5))) fun k6 =>
 condK c1 (
 k6 true s2) (
 joinB (fun c32 s33 =>
 k6 c32 s33) fun k34 =>
 condK (ltF (Int.ofNat 1) (subF .i64 b d)) (
 idxStrX a d fun x35 =>
 k34 (eqF x35 (Int.ofNat 48)) s2) (
 k34 false s2))) fun k3 =>
 condK (ltF (subF .i64 b d) (Int.ofNat 1)) (
 k3 true σ) (
 k3 (ltF (Int.ofNat 19) (subF .i64 b d)) σ)
def C40_3 (cc4 : XC) : XC := (.seq (.z (.m 17 1<|
.m 18 0<|
.P 19 (.len true (.t 18))<|
.b 20 .lss .none (.t 17) (.t 19)<|
.m 21 20<|
.gA 21 true (.p 22 [0, 21] y10<|
.p 23 [1, 21] y13<|
.p 24 [22, 23, 21] (.idxStr (.t 22) (.t 23))<|
.op (some 25) .bool [24, 21] (.call 39 [(.t 24)])<|
.nil) 26 21 25<|
.nil)
 (.cond (.tmp 26) .skip
 (.exit 0)))
 (.block 1 (.seq (.z (.m 27 1<|
.m 28 6<|
.b 29 .sub .none (.t 27) (.t 28)<|
.b 30 .lss .none (.t 29) (.i 19)<|
.nil)
 (.cond (.tmp 30) (.ops (.m 31 7<|
.b 32 .mul .none (.con (V.int .u64 (Int.ofNat 10))) (.t 31)<|
.m 33 0<|
.m 34 1<|
.P 35 (.idxStr (.t 33) (.t 34))<|
.b 36 .sub .none (.t 35) y17<|
.P 37 (.conv (.toInt .u64) (.t 36))<|
.b 38 .add .none (.t 32) (.t 37)<|
.m 7 38<|
.nil))
 .skip))
 (.keep q40a [] [] cc4))))
def T40_3 (E : List (Nat × Blk)) (D : Den) (W : DrawFn) (K2 : BS → Int → Bool → Int → Int → H → Ans) (K4 : BS → Int → Bool → Int → Int → H → Ans) (a : BS) (b : Int) (c : Bool) (d e : Int) (σ : H) : Ans :=
 joinB (fun c1 s2 =>
 condK c1 (
 condK (ltF (subF .i64 b d) (Int.ofNat 19)) (
 idxStrX a b fun x4 =>
 K4 a b c d (addF .u64 (mulF .u64 (Int.ofNat 10) e) (wrapF .u64 (subF .u8 x4 (Int.ofNat 48)))) s2) (
 K4 a b c d e s2)) (
 K2 a b c d e s2)) fun k3 =>
 condK (ltF b (Int.ofNat (BS.len a))) (
 idxStrX a b fun x5 =>
 callK (D 39 [.int .u8 x5] σ) fun u6 s7 =>
 rtBool u6 fun x8 =>
 k3 x8 s7) (
 k3 false σ)
def C40_4 : XC := (.ops (.m 39 1<|
.b 40 .add .none (.t 39) (.i 1)<|
.m 1 40<|
.nil))
def T40_4 (E : List (Nat × Blk)) (D : Den) (W : DrawFn) (R3 : BS → Int → Bool → Int → Int → H → Ans) (a : BS) (b : Int) (c : Bool) (d e : Int) (σ : H) : Ans :=
 R3 a (addF .i64 b (Int.ofNat 1)) c d e σ
def S40_0 (a : BS) (b : Int) (σ : H) : St := ⟨[(0, .str a), (1, .int .i64 b)], [], [], σ⟩
def S40_1 (a : BS) (b : Int) (c : Bool) (σ : H) : St := ⟨[(0, .str a), (1, .int .i64 b), (5, .bool c)], [], [], σ⟩
def S40_2 (a : BS) (b : Int) (c : Bool) (d e : Int) (σ : H) : St := ⟨[(0, .str a), (1, .int .i64 b), (5, .bool c), (6, .int .i64 d), (7, .int .u64 e)], [], [], σ⟩
theorem P40_0 (cc1 : XC) (a : BS) (b : Int) (σ : H) :
  denC E D W N (C40_0 cc1) (S40_0 a b σ) (Fin40 E) nX (Fin40 E) =
  T40_0 E D W (fun a b c σ => denC E D W N cc1 (S40_1 a b c σ) (Fin40 E) nX (Fin40 E)) a b σ := by kernel_rfl
theorem P40_1 (cc2 : XC) (cc3 : XC) (a : BS) (b : Int) (c : Bool) (σ : H) :
  denC E D W N (C40_1 cc2 cc3) (S40_1 a b c σ) (Fin40 E) nX (Fin40 E) =
  T40_1 E D W (fun a b c d e σ => iterK (fun rec s' => denC E D W N cc3 s' (kX q40a [] [] rec) (b40a E D W N cc2) (Fin40 E)) N (S40_2 a b c d e σ)) a b c σ := by kernel_rfl
theorem P40_3 (cc2 : XC) (cc4 : XC) (li3 : St → Ans) (a : BS) (b : Int) (c : Bool) (d e : Int) (σ : H) :
  denC E D W N (C40_3 cc4) (S40_2 a b c d e σ) (kX q40a [] [] li3) (b40a E D W N cc2) (Fin40 E) =
  T40_3 E D W (fun a b c d e σ => denC E D W N cc2 (S40_2 a b c d e σ) (Fin40 E) nX (Fin40 E)) (fun a b c d e σ => denC E D W N cc4 (S40_2 a b c d e σ) (kX q40a [] [] li3) (blkK 1 (kX q40a [] [] li3) (b40a E D W N cc2)) (Fin40 E)) a b c d e σ := by kernel_rfl
theorem P40_4 (cc2 : XC) (li3 : St → Ans) (a : BS) (b : Int) (c : Bool) (d e : Int) (σ : H) :
  denC E D W N (C40_4 ) (S40_2 a b c d e σ) (kX q40a [] [] li3) (blkK 1 (kX q40a [] [] li3) (b40a E D W N cc2)) (Fin40 E) =
  T40_4 E D W (fun a b c d e σ => li3 (S40_2 a b c d e σ)) a b c d e σ := by kernel_rfl
def J40_2 (E : List (Nat × Blk)) (D : Den) (W : DrawFn) (N : Nat) := T40_2 E D W 
theorem JE40_2 (a : BS) (b : Int) (c : Bool) (d e : Int) (σ : H) :
  denC E D W N C40_2 (S40_2 a b c d e σ) (Fin40 E) nX (Fin40 E) = J40_2 E D W N a b c d e σ := by kernel_rfl
def J40_4 (E : List (Nat × Blk)) (D : Den) (W : DrawFn) (N : Nat) (R3 : BS → Int → Bool → Int → Int → H → Ans) := T40_4 E D W R3
theorem JE40_4 (li3 : St → Ans) (a : BS) (b : Int) (c : Bool) (d e : Int) (σ : H) :
  denC E D W N C40_4 (S40_2 a b c d e σ) (kX q40a [] [] li3) (blkK 1 (kX q40a [] [] li3) (b40a E D W N C40_2)) (Fin40 E) = J40_4 E D W N (fun a b c d e σ => li3 (S40_2 a b c d e σ)) a b c d e σ := by
  refine (P40_4 E D W N C40_2 li3 a b c d e σ).trans ?_
  kernel_rfl
def L40_3 (n : Nat) : BS → Int → Bool → Int → Int → H → Ans :=
  Nat.rec (fun _ _ _ _ _ _ => none) (fun _ ih => T40_3 E D W (J40_2 E D W N ) (J40_4 E D W N ih)) n
theorem LE40_3 (n : Nat) : ∀ (a : BS) (b : Int) (c : Bool) (d e : Int) (σ : H),
  iterK (fun rec s' => denC E D W N (C40_3 C40_4) s' (kX q40a [] [] rec) (b40a E D W N C40_2) (Fin40 E)) n (S40_2 a b c d e σ) = L40_3 E D W N n a b c d e σ := by
  induction n with
  | zero => intro a b c d e σ; rfl
  | succ n ihn =>
    intro a b c d e σ
    rw [iterK_succ]
    refine (P40_3 E D W N C40_2 C40_4 (iterK (fun rec s' => denC E D W N (C40_3 C40_4) s' (kX q40a [] [] rec) (b40a E D W N C40_2) (Fin40 E)) n) a b c d e σ).trans ?_
    simp only [ihn, JE40_2, JE40_4]
    kernel_rfl
def J40_1 := T40_1 E D W (L40_3 E D W N N)
theorem JE40_1 (a : BS) (b : Int) (c : Bool) (σ : H) :
  denC E D W N (C40_1 C40_2 (C40_3 C40_4)) (S40_1 a b c σ) (Fin40 E) nX (Fin40 E) = J40_1 E D W N a b c σ := by
  refine (P40_1 E D W N C40_2 (C40_3 C40_4)  a b c σ).trans ?_
  simp only [LE40_3]
  kernel_rfl
def J40_0 := T40_0 E D W (J40_1 E D W N )
theorem JE40_0 (a : BS) (b : Int) (σ : H) :
  denC E D W N (C40_0 (C40_1 C40_2 (C40_3 C40_4))) (S40_0 a b σ) (Fin40 E) nX (Fin40 E) = J40_0 E D W N a b σ := by
  refine (P40_0 E D W N (C40_1 C40_2 (C40_3 C40_4))  a b σ).trans ?_
  simp only [JE40_1]
  kernel_rfl
def F40 (args : List V) (σ : H) : Ans :=
 xcS args fun x3 l2 =>
 xcI .i64 l2 fun x6 l5 =>
 rtNil l5 (
 J40_0 E D W N x3 x6 σ)
def A40 : XFn := ⟨88, [.str, .i], [(.tmp 4)], (C40_0 (C40_1 C40_2 (C40_3 C40_4)))⟩
theorem FE40 (args : List V) (σ : H) : runX E D W N A40 args σ = F40 E D W N args σ := by
  unfold F40
  simp only [← JE40_0]
  kernel_rfl

/-! ### F43: ogham_oghamref04.sign -/
def q43a : List (Nat × XTy) := [(5, .str), (6, .any), (7, .i)]
def Fin43 (E : List (Nat × Blk)) : St → Ans := fun s => resK E s [(.tmp 4)] fun l => some (oneV l, s.σ)
def b43a (c0 : XC) : Nat → St → Ans := blkK 0 (dX E D W N (.keep [] [] [] c0) (Fin43 E) nX (Fin43 E)) nX
def C43_0 (cc1 : XC) (cc2 : XC) : XC := (.z (.q 4 0<|
.nil)
 (.z (.m 9 0<|
.m 10 1<|
.p 11 [9, 10] (.sliceStr (.t 9) (some (.t 10)) none)<|
.m 5 11<|
.nil)
 (.z (.p 12 [] (.buildSlice 9 13 [y1, y1, y1, y1, y1, y1, y1, y1, y1, y1, y1, y1, y1] [(0, 1, (.con (V.str ⟨3, 4012602⟩))), (1, 1, (.con (V.str ⟨3, 3026478⟩))), (2, 1, y18), (3, 1, (.con (V.str ⟨2, 23387⟩))), (4, 1, (.con (V.str ⟨2, 23901⟩))), (5, 1, y28), (6, 1, (.con (V.str ⟨1, 125⟩))), (7, 1, (.con (V.str ⟨1, 91⟩))), (8, 1, (.con (V.str ⟨1, 93⟩))), (9, 1, (.con (V.str ⟨1, 40⟩))), (10, 1, y29), (11, 1, (.con (V.str ⟨1, 44⟩))), (12, 1, (.con (V.str ⟨1, 58⟩)))])<|
.m 6 12<|
.nil)
 (.seq (.z (.q 7 0<|
.nil)
 (.block 0 (.loop q43a [] [] cc2)))
 (.keep [] [] [] cc1)))))
def T43_0 (E : List (Nat × Blk)) (D : Den) (W : DrawFn) (K2 : BS → V → Int → H → Ans) (a : BS) (b : Int) (σ : H) : Ans :=
 sliceStrX a (some (V.int .i64 b)) none fun t1 =>
 let s2 := newB σ (.cells [.str (BS.mk 3 4012602), .str (BS.mk 3 3026478), .str (BS.mk 2 11822), .str (BS.mk 2 23387), .str (BS.mk 2 23901), .str (BS.mk 1 123), .str (BS.mk 1 125), .str (BS.mk 1 91), .str (BS.mk 1 93), .str (BS.mk 1 40), .str (BS.mk 1 41), .str (BS.mk 1 44), .str (BS.mk 1 58)]);
 K2 t1 (V.sl (H.next σ) 0 13 (.ex 13)) (Int.ofNat 0) s2
def C43_1 : XC := (.z (.q 4 0<|
.nil)
 .ret)
def T43_1 (E : List (Nat × Blk)) (D : Den) (W : DrawFn) (σ : H) : Ans :=
 some ((V.int .i64 (Int.ofNat 0)), σ)
def C43_2 : XC := (.seq (.z (.m 13 7<|
.m 14 6<|
.u 15 14<|
.b 16 .lss .none (.t 13) (.t 15)<|
.nil)
 (.cond (.tmp 16) .skip
 (.exit 0)))
 (.seq (.block 1 (.z (.m 19 6<|
.m 20 7<|
.s 21 1 19 20<|
.l 22 .str 21<|
.P 23 (.len true (.t 22))<|
.m 8 23<|
.nil)
 (.seq (.draw (.m 24 5<|
.P 25 (.len true (.t 24))<|
.m 26 8<|
.b 27 .geq .none (.t 25) (.t 26)<|
.m 28 27<|
.gA 28 true (.p 29 [5, 28] (.mov (.t 5))<|
.p 30 [8, 28] (.mov (.t 8))<|
.p 31 [29, 30, 28] (.sliceStr (.t 29) none (some (.t 30)))<|
.p 32 [6, 28] (.mov (.t 6))<|
.p 33 [7, 28] (.mov (.t 7))<|
.p 34 [32, 33, 28] (.iaddrS 1 (.t 32) (.t 33))<|
.op (some 35) .str [34, 28] (.load none (.t 34))<|
.p 36 [31, 35, 28] (.bin .eql .none (.t 31) (.t 35))<|
.nil) 37 28 36<|
.nil) [0, 1, 0, 7, 15, 31, 31, 127, 31, 31, 799, 1823, 4095, 8191])
 (.cond (.tmp 37) (.z (.m 38 8<|
.m 4 38<|
.nil)
 .ret)
 .skip))))
 (.ops (.m 17 7<|
.b 18 .add .none (.t 17) (.i 1)<|
.m 7 18<|
.nil))))
def T43_2 (E : List (Nat × Blk)) (D : Den) (W : DrawFn) (K1 : H → Ans) (R2 : BS → V → Int → H → Ans) (a : BS) (b : V) (c : Int) (σ : H) : Ans :=
 slenK b fun n1 =>
 condK (ltF c (Int.ofNat n1)) (
 iaddrSK 1 b c fun b2 o3 =>
 ldK E σ b2 o3 fun u4 =>
 rtStr u4 fun x5 =>
 joinB (fun c6 s7 =>
 condK c6 (
 some ((V.int .i64 (Int.ofNat (BS.len x5))), s7)) (
 R2 a b (addF .i64 c (Int.ofNat 1)) s7)) fun k8 =>
 condK (leF (Int.ofNat (BS.len x5)) (Int.ofNat (BS.len a))) (
 sliceStrX a none (some (V.int .i64 (Int.ofNat (BS.len x5)))) fun t9 =>
 iaddrSK 1 b c fun b10 o11 =>
 ldK E σ b10 o11 fun u12 =>
 rtStr u12 fun x13 =>
 k8 (BS.beq t9 x13) σ) (
 k8 false σ)) (
 K1 σ)
def S43_0 (a : BS) (b : Int) (σ : H) : St := ⟨[(0, .str a), (1, .int .i64 b)], [], [], σ⟩
def S43_1 (σ : H) : St := ⟨[], [], [], σ⟩
def S43_2 (a : BS) (b : V) (c : Int) (σ : H) : St := ⟨[(5, .str a), (6, b), (7, .int .i64 c)], [], [], σ⟩
theorem P43_0 (cc1 : XC) (cc2 : XC) (a : BS) (b : Int) (σ : H) :
  denC E D W N (C43_0 cc1 cc2) (S43_0 a b σ) (Fin43 E) nX (Fin43 E) =
  T43_0 E D W (fun c d e σ => iterK (fun rec s' => denC E D W N cc2 s' (kX q43a [] [] rec) (b43a E D W N cc1) (Fin43 E)) N (S43_2 c d e σ)) a b σ := by kernel_rfl
theorem P43_2 (cc1 : XC) (li2 : St → Ans) (a : BS) (b : V) (c : Int) (σ : H) :
  denC E D W N (C43_2 ) (S43_2 a b c σ) (kX q43a [] [] li2) (b43a E D W N cc1) (Fin43 E) =
  T43_2 E D W (fun  σ => denC E D W N cc1 (S43_1 σ) (Fin43 E) nX (Fin43 E)) (fun a b c σ => li2 (S43_2 a b c σ)) a b c σ := by kernel_rfl
def J43_1 (E : List (Nat × Blk)) (D : Den) (W : DrawFn) (N : Nat) := T43_1 E D W 
theorem JE43_1 (σ : H) :
  denC E D W N C43_1 (S43_1 σ) (Fin43 E) nX (Fin43 E) = J43_1 E D W N  σ := by kernel_rfl
def L43_2 (n : Nat) : BS → V → Int → H → Ans :=
  Nat.rec (fun _ _ _ _ => none) (fun _ ih => T43_2 E D W (J43_1 E D W N ) ih) n
theorem LE43_2 (n : Nat) : ∀ (a : BS) (b : V) (c : Int) (σ : H),
  iterK (fun rec s' => denC E D W N C43_2 s' (kX q43a [] [] rec) (b43a E D W N C43_1) (Fin43 E)) n (S43_2 a b c σ) = L43_2 E D W N n a b c σ := by
  induction n with
  | zero => intro a b c σ; rfl
  | succ n ihn =>
    intro a b c σ
    rw [iterK_succ]
    refine (P43_2 E D W N C43_1 (iterK (fun rec s' => denC E D W N C43_2 s' (kX q43a [] [] rec) (b43a E D W N C43_1) (Fin43 E)) n) a b c σ).trans ?_
    simp only [ihn, JE43_1]
    kernel_rfl
def J43_0 := T43_0 E D W (L43_2 E D W N N)
theorem JE43_0 (a : BS) (b : Int) (σ : H) :
  denC E D W N (C43_0 C43_1 C43_2) (S43_0 a b σ) (Fin43 E) nX (Fin43 E) = J43_0 E D W N a b σ := by
  refine (P43_0 E D W N C43_1 C43_2  a b σ).trans ?_
  simp only [LE43_2]
  kernel_rfl
def F43 (args : List V) (σ : H) : Ans :=
 xcS args fun x3 l2 =>
 xcI .i64 l2 fun x6 l5 =>
 rtNil l5 (
 J43_0 E D W N x3 x6 σ)
def A43 : XFn := ⟨39, [.str, .i], [(.tmp 4)], (C43_0 C43_1 C43_2)⟩
theorem FE43 (args : List V) (σ : H) : runX E D W N A43 args σ = F43 E D W N args σ := by
  unfold F43
  simp only [← JE43_0]
  kernel_rfl

/-! ### F44: ogham_oghamref05.Whole -/
def q44a : List (Nat × XTy) := [(0, .str), (3, .bool), (4, (.int .u64)), (5, .i)]
def q44b : List (Nat × XTy) := [(3, .bool), (4, (.int .u64))]
def Fin44 (E : List (Nat × Blk)) : St → Ans := fun s => resK E s [(.tmp 2)] fun l => some (oneV l, s.σ)
def b44a (c0 : XC) : Nat → St → Ans := blkK 0 (dX E D W N (.keep q44b [] [] c0) (Fin44 E) nX (Fin44 E)) nX
def C44_0 (cc1 : XC) : XC := (.z (.q 2 0<|
.nil)
 (.z (.m 6 0<|
.P 7 (.idxStr (.t 6) (.i 0))<|
.b 8 .eql .none (.t 7) y8<|
.m 3 8<|
.nil)
 (.seq (.z (.m 9 3<|
.nil)
 (.cond (.tmp 9) (.ops (.m 10 0<|
.p 11 [10] (.sliceStr (.t 10) (some (.i 1)) none)<|
.m 0 11<|
.nil))
 .skip))
 (.keep [(0, .str), (3, .bool)] [] [] cc1))))
def T44_0 (E : List (Nat × Blk)) (D : Den) (W : DrawFn) (K1 : BS → Bool → H → Ans) (a : BS) (σ : H) : Ans :=
 idxStrX a (Int.ofNat 0) fun x1 =>
 condK (eqF x1 (Int.ofNat 45)) (
 sliceStrX a (some (V.int .i64 (Int.ofNat 1))) none fun t2 =>
 K1 t2 (eqF x1 (Int.ofNat 45)) σ) (
 K1 a (eqF x1 (Int.ofNat 45)) σ)
def C44_1 (cc2 : XC) (cc3 : XC) : XC := (.z (.c 4 (V.int .u64 (Int.ofNat 0))<|
.nil)
 (.seq (.z (.q 5 0<|
.nil)
 (.block 0 (.loop q44a [] [] cc3)))
 (.keep q44b [] [] cc2)))
def T44_1 (E : List (Nat × Blk)) (D : Den) (W : DrawFn) (K3 : BS → Bool → Int → Int → H → Ans) (a : BS) (b : Bool) (σ : H) : Ans :=
 K3 a b (Int.ofNat 0) (Int.ofNat 0) σ
def C44_2 : XC := (.seq (.z (.m 26 3<|
.nil)
 (.cond (.tmp 26) (.z (.m 27 4<|
.b 28 .sub .none (.t 27) (.con (V.int .u64 (Int.ofNat 1)))<|
.P 29 (.conv (.toInt .i64) (.t 28))<|
.P 30 (.un .neg (.t 29))<|
.b 31 .sub .none (.t 30) (.i 1)<|
.m 2 31<|
.nil)
 .ret)
 .skip))
 (.z (.m 32 4<|
.P 33 (.conv (.toInt .i64) (.t 32))<|
.m 2 33<|
.nil)
 .ret))
def T44_2 (E : List (Nat × Blk)) (D : Den) (W : DrawFn) (a : Bool) (b : Int) (σ : H) : Ans :=
 condK a (
 some ((V.int .i64 (subF .i64 (negF .i64 (wrapF .i64 (subF .u64 b (Int.ofNat 1)))) (Int.ofNat 1))), σ)) (
 some ((V.int .i64 (wrapF .i64 b)), σ))
def C44_3 : XC := (.seq (.z (.m 12 5<|
.m 13 0<|
.P 14 (.len true (.t 13))<|
.b 15 .lss .none (.t 12) (.t 14)<|
.nil)
 (.cond (.tmp 15) .skip
 (.exit 0)))
 (.seq (.block 1 (.ops (.m 18 4<|
.b 19 .mul .none (.con (V.int .u64 (Int.ofNat 10))) (.t 18)<|
.m 20 0<|
.m 21 5<|
.P 22 (.idxStr (.t 20) (.t 21))<|
.b 23 .sub .none (.t 22) y17<|
.P 24 (.conv (.toInt .u64) (.t 23))<|
.b 25 .add .none (.t 19) (.t 24)<|
.m 4 25<|
.nil)))
 (.ops (.m 16 5<|
.b 17 .add .none (.t 16) (.i 1)<|
.m 5 17<|
.nil))))
def T44_3 (E : List (Nat × Blk)) (D : Den) (W : DrawFn) (K2 : Bool → Int → H → Ans) (R3 : BS → Bool → Int → Int → H → Ans) (a : BS) (b : Bool) (c d : Int) (σ : H) : Ans :=
 condK (ltF d (Int.ofNat (BS.len a))) (
 idxStrX a d fun x1 =>
 R3 a b (addF .u64 (mulF .u64 (Int.ofNat 10) c) (wrapF .u64 (subF .u8 x1 (Int.ofNat 48)))) (addF .i64 d (Int.ofNat 1)) σ) (
 K2 b c σ)
def S44_0 (a : BS) (σ : H) : St := ⟨[(0, .str a)], [], [], σ⟩
def S44_1 (a : BS) (b : Bool) (σ : H) : St := ⟨[(0, .str a), (3, .bool b)], [], [], σ⟩
def S44_2 (a : Bool) (b : Int) (σ : H) : St := ⟨[(3, .bool a), (4, .int .u64 b)], [], [], σ⟩
def S44_3 (a : BS) (b : Bool) (c d : Int) (σ : H) : St := ⟨[(0, .str a), (3, .bool b), (4, .int .u64 c), (5, .int .i64 d)], [], [], σ⟩
theorem P44_0 (cc1 : XC) (a : BS) (σ : H) :
  denC E D W N (C44_0 cc1) (S44_0 a σ) (Fin44 E) nX (Fin44 E) =
  T44_0 E D W (fun a b σ => denC E D W N cc1 (S44_1 a b σ) (Fin44 E) nX (Fin44 E)) a σ := by kernel_rfl
theorem P44_1 (cc2 : XC) (cc3 : XC) (a : BS) (b : Bool) (σ : H) :
  denC E D W N (C44_1 cc2 cc3) (S44_1 a b σ) (Fin44 E) nX (Fin44 E) =
  T44_1 E D W (fun a b c d σ => iterK (fun rec s' => denC E D W N cc3 s' (kX q44a [] [] rec) (b44a E D W N cc2) (Fin44 E)) N (S44_3 a b c d σ)) a b σ := by kernel_rfl
theorem P44_3 (cc2 : XC) (li3 : St → Ans) (a : BS) (b : Bool) (c d : Int) (σ : H) :
  denC E D W N (C44_3 ) (S44_3 a b c d σ) (kX q44a [] [] li3) (b44a E D W N cc2) (Fin44 E) =
  T44_3 E D W (fun b c σ => denC E D W N cc2 (S44_2 b c σ) (Fin44 E) nX (Fin44 E)) (fun a b c d σ => li3 (S44_3 a b c d σ)) a b c d σ := by kernel_rfl
def J44_2 (E : List (Nat × Blk)) (D : Den) (W : DrawFn) (N : Nat) := T44_2 E D W 
theorem JE44_2 (a : Bool) (b : Int) (σ : H) :
  denC E D W N C44_2 (S44_2 a b σ) (Fin44 E) nX (Fin44 E) = J44_2 E D W N a b σ := by kernel_rfl
def L44_3 (n : Nat) : BS → Bool → Int → Int → H → Ans :=
  Nat.rec (fun _ _ _ _ _ => none) (fun _ ih => T44_3 E D W (J44_2 E D W N ) ih) n
theorem LE44_3 (n : Nat) : ∀ (a : BS) (b : Bool) (c d : Int) (σ : H),
  iterK (fun rec s' => denC E D W N C44_3 s' (kX q44a [] [] rec) (b44a E D W N C44_2) (Fin44 E)) n (S44_3 a b c d σ) = L44_3 E D W N n a b c d σ := by
  induction n with
  | zero => intro a b c d σ; rfl
  | succ n ihn =>
    intro a b c d σ
    rw [iterK_succ]
    refine (P44_3 E D W N C44_2 (iterK (fun rec s' => denC E D W N C44_3 s' (kX q44a [] [] rec) (b44a E D W N C44_2) (Fin44 E)) n) a b c d σ).trans ?_
    simp only [ihn, JE44_2]
    kernel_rfl
def J44_1 := T44_1 E D W (L44_3 E D W N N)
theorem JE44_1 (a : BS) (b : Bool) (σ : H) :
  denC E D W N (C44_1 C44_2 C44_3) (S44_1 a b σ) (Fin44 E) nX (Fin44 E) = J44_1 E D W N a b σ := by
  refine (P44_1 E D W N C44_2 C44_3  a b σ).trans ?_
  simp only [LE44_3]
  kernel_rfl
def J44_0 := T44_0 E D W (J44_1 E D W N )
theorem JE44_0 (a : BS) (σ : H) :
  denC E D W N (C44_0 (C44_1 C44_2 C44_3)) (S44_0 a σ) (Fin44 E) nX (Fin44 E) = J44_0 E D W N a σ := by
  refine (P44_0 E D W N (C44_1 C44_2 C44_3)  a σ).trans ?_
  simp only [JE44_1]
  kernel_rfl
def F44 (args : List V) (σ : H) : Ans :=
 xcS args fun x3 l2 =>
 rtNil l2 (
 J44_0 E D W N x3 σ)
def A44 : XFn := ⟨34, [.str], [(.tmp 2)], (C44_0 (C44_1 C44_2 C44_3))⟩
theorem FE44 (args : List V) (σ : H) : runX E D W N A44 args σ = F44 E D W N args σ := by
  unfold F44
  simp only [← JE44_0]
  kernel_rfl

/-! ### F45: __ogham_oghamref05.parser_.size -/
def C45_0 : XC := (.z (.pal 2 [] 67 [y5, y5, y5, y5, y0, y0]<|
.nil)
 (.seq (.z (.m 4 0<|
.k 5 .bool 12 [(.t 4), (.con (V.str ⟨1, 40⟩))]<|
.P 6 (.un .not (.t 5))<|
.nil)
 (.cond (.tmp 6) (.z (.op (some 7) y2 [] (.build [y5, y5, y5, y5, y0, y0] [])<|
.op none y2 [2, 7] (.store 6 (.t 2) (.t 7))<|
.nil)
 .ret)
 .skip))
 (.z (.m 8 0<|
.k 9 y7 11 [(.t 8), (.con (V.str ⟨4, 1163544915⟩))]<|
.nil)
 (.z (.m 10 0<|
.k 11 y7 11 [(.t 10), (.con (V.str ⟨1, 40⟩))]<|
.nil)
 (.z (.m 12 0<|
.k 13 y2 46 [(.t 12)]<|
.pal 3 [] 67 [y5, y5, y5, y5, y0, y0]<|
.op none y2 [3, 13] (.store 6 (.t 3) (.t 13))<|
.nil)
 (.z (.m 14 0<|
.k 15 y7 11 [(.t 14), y29]<|
.nil)
 (.z (.m 16 0<|
.k 17 y7 11 [(.t 16), y29]<|
.nil)
 (.z (.O 18 y2 (.load (some 6) (.t 3))<|
.op none y2 [2, 18] (.store 6 (.t 2) (.t 18))<|
.nil)
 .ret))))))))
def T45_0 (E : List (Nat × Blk)) (D : Den) (W : DrawFn) (a : V) (σ : H) : Ans :=
 callK (D 12 [a, .str (BS.mk 1 40)] σ) fun u1 s2 =>
 rtBool u1 fun x3 =>
 condK (not x3) (
 some ((V.agg [.bool false, .bool false, .bool false, .bool false, .int .i64 (Int.ofNat 0), .int .i64 (Int.ofNat 0)]), s2)) (
 callK (D 11 [a, .str (BS.mk 4 1163544915)] s2) fun u4 s5 =>
 rtTup u4 fun l6 =>
 rtNil l6 (
 callK (D 11 [a, .str (BS.mk 1 40)] s5) fun u7 s8 =>
 rtTup u7 fun l9 =>
 rtNil l9 (
 callK (D 46 [a] s8) fun u10 s11 =>
 rtAgg u10 fun l12 =>
 xcB l12 fun x15 l14 =>
 xcB l14 fun x18 l17 =>
 xcB l17 fun x21 l20 =>
 xcB l20 fun x24 l23 =>
 xcI .i64 l23 fun x27 l26 =>
 xcI .i64 l26 fun x30 l29 =>
 rtNil l29 (
 callK (D 11 [a, .str (BS.mk 1 41)] s11) fun u31 s32 =>
 rtTup u31 fun l33 =>
 rtNil l33 (
 callK (D 11 [a, .str (BS.mk 1 41)] s32) fun u34 s35 =>
 rtTup u34 fun l36 =>
 rtNil l36 (
 some ((V.agg [.bool x15, .bool x18, .bool x21, .bool x24, .int .i64 x27, .int .i64 x30]), s35)))))))
def F45 (N : Nat) (args : List V) (σ : H) : Ans :=
 rtCons args fun x1 l2 =>
 rtNil l2 (
 T45_0 E D W x1 σ)
def A45 : XFn := ⟨19, [.any], [(.cell 2 (some 6))], C45_0⟩
theorem FE45 (args : List V) (σ : H) : runX E D W N A45 args σ = F45 E D W N args σ := by kernel_rfl

/-! ### F46: __ogham_oghamref05.parser_.bounds -/
def q46a : List (Nat × List XTy) := [(2, [.bool, .bool, .bool, .bool, .i, .i]), (3, [.bool, .bool, .bool, .bool, .i, .i])]
def C46_0 (cc1 : XC) : XC := (.z (.pal 2 [] 67 [y5, y5, y5, y5, y0, y0]<|
.nil)
 (.z (.op (some 4) y2 [] (.build [y5, y5, y5, y5, y0, y0] [(0, 1, y12)])<|
.pal 3 [] 67 [y5, y5, y5, y5, y0, y0]<|
.op none y2 [3, 4] (.store 6 (.t 3) (.t 4))<|
.nil)
 (.seq (.z (.m 5 0<|
.k 6 .bool 12 [(.t 5), y32]<|
.P 7 (.un .not (.t 6))<|
.nil)
 (.cond (.tmp 7) (.ops (.m 8 0<|
.k 9 .i 24 [(.t 8)]<|
.f 10 1 3<|
.op none .any [10] (.store 1 (.t 10) y12)<|
.f 11 4 3<|
.w 1 11 9<|
.nil))
 .skip))
 (.keep [(0, .any)] [2, 3] q46a cc1))))
def T46_0 (E : List (Nat × Blk)) (D : Den) (W : DrawFn) (K1 : V → Bool → Bool → Bool → Bool → Int → Int → Bool → Bool → Bool → Bool → Int → Int → H → Ans) (a : V) (σ : H) : Ans :=
 callK (D 12 [a, .str (BS.mk 3 5130573)] σ) fun u1 s2 =>
 rtBool u1 fun x3 =>
 condK (not x3) (
 callK (D 24 [a] s2) fun u4 s5 =>
 rtInt .i64 u4 fun x6 =>
 K1 a false false false false (Int.ofNat 0) (Int.ofNat 0) true true false false x6 (Int.ofNat 0) s5) (
 K1 a false false false false (Int.ofNat 0) (Int.ofNat 0) true false false false (Int.ofNat 0) (Int.ofNat 0) s2)
def C46_1 (cc2 : XC) : XC := (.seq (.block 0 (.z (.m 13 0<|
.k 14 .bool 12 [(.t 13), y18]<|
.m 12 14<|
.nil)
 (.cond (.tmp 12) (.z (.m 15 0<|
.k 16 .bool 12 [(.t 15), (.con (V.str ⟨3, 5783885⟩))]<|
.P 17 (.un .not (.t 16))<|
.nil)
 (.cond (.tmp 17) (.ops (.m 18 0<|
.k 19 .i 24 [(.t 18)]<|
.f 20 2 3<|
.op none .any [20] (.store 1 (.t 20) y12)<|
.f 21 5 3<|
.w 1 21 19<|
.nil))
 .skip))
 (.z (.f 23 1 3<|
.l 24 .bool 23<|
.m 22 24<|
.nil)
 (.cond (.tmp 22) (.ops (.f 25 4 3<|
.l 26 .i 25<|
.f 27 2 3<|
.op none .any [27] (.store 1 (.t 27) y12)<|
.f 28 5 3<|
.w 1 28 26<|
.nil))
 .skip)))))
 (.keep [(0, .any)] [2, 3] q46a cc2))
def T46_1 (E : List (Nat × Blk)) (D : Den) (W : DrawFn) (K2 : V → Bool → Bool → Bool → Bool → Int → Int → Bool → Bool → Bool → Bool → Int → Int → H → Ans) (a : V) (b c d e : Bool) (f g : Int) (h i j k : Bool) (l m : Int) (σ : H) : Ans :=
 callK (D 12 [a, .str (BS.mk 2 11822)] σ) fun u1 s2 =>
 rtBool u1 fun x3 =>
 condK x3 (
 callK (D 12 [a, .str (BS.mk 3 5783885)] s2) fun u4 s5 =>
 rtBool u4 fun x6 =>
 condK (not x6) (
 callK (D 24 [a] s5) fun u7 s8 =>
 rtInt .i64 u7 fun x9 =>
 K2 a b c d e f g h i true k l x9 s8) (
 K2 a b c d e f g h i j k l m s5)) (
 condK i (
 K2 a b c d e f g h i true k l l s2) (
 K2 a b c d e f g h i j k l m s2))
def C46_2 (cc3 : XC) : XC := (.seq (.z (.m 29 0<|
.k 30 .bool 12 [(.t 29), (.con (V.str ⟨1, 44⟩))]<|
.nil)
 (.cond (.tmp 30) (.z (.m 31 0<|
.k 32 y7 11 [(.t 31), (.con (V.str ⟨3, 3026478⟩))]<|
.nil)
 (.ops (.f 33 3 3<|
.op none .any [33] (.store 1 (.t 33) y12)<|
.nil)))
 .skip))
 (.keep [] [2, 3] q46a cc3))
def T46_2 (E : List (Nat × Blk)) (D : Den) (W : DrawFn) (K3 : Bool → Bool → Bool → Bool → Int → Int → Bool → Bool → Bool → Bool → Int → Int → H → Ans) (a : V) (b c d e : Bool) (f g : Int) (h i j k : Bool) (l m : Int) (σ : H) : Ans :=
 callK (D 12 [a, .str (BS.mk 1 44)] σ) fun u1 s2 =>
 rtBool u1 fun x3 =>
 condK x3 (
 callK (D 11 [a, .str (BS.mk 3 3026478)] s2) fun u4 s5 =>
 rtTup u4 fun l6 =>
 rtNil l6 (
 K3 b c d e f g h i j true l m s5)) (
 K3 b c d e f g h i j k l m s2)
def C46_3 : XC := (.z (.O 34 y2 (.load (some 6) (.t 3))<|
.op none y2 [2, 34] (.store 6 (.t 2) (.t 34))<|
.nil)
 .ret)
def T46_3 (E : List (Nat × Blk)) (D : Den) (W : DrawFn) (a b c d : Bool) (e f : Int) (g h i j : Bool) (k l : Int) (σ : H) : Ans :=
 some ((V.agg [.bool g, .bool h, .bool i, .bool j, .int .i64 k, .int .i64 l]), σ)
def J46_3 (E : List (Nat × Blk)) (D : Den) (W : DrawFn) (N : Nat) := T46_3 E D W 
def J46_2 := T46_2 E D W (J46_3 E D W N )
def J46_1 := T46_1 E D W (J46_2 E D W N )
def F46 (args : List V) (σ : H) : Ans :=
 rtCons args fun x1 l2 =>
 rtNil l2 (
 T46_0 E D W (J46_1 E D W N ) x1 σ)
def A46 : XFn := ⟨35, [.any], [(.cell 2 (some 6))], (C46_0 (C46_1 (C46_2 C46_3)))⟩
theorem FE46 (args : List V) (σ : H) : runX E D W N A46 args σ = F46 E D W N args σ := by kernel_rfl

/-! ### F54: __ogham_print.writer_.number -/
def C54_0 : XC := (.ops (.m 4 0<|
.m 5 1<|
.k 6 .str 71 [(.t 5), (.i 10)]<|
.p 7 [6] (.buildSlice 9 1 [y1] [(0, 1, (.t 6))])<|
.k 8 y7 18 [(.t 4), (.t 7)]<|
.nil))
def T54_0 (E : List (Nat × Blk)) (D : Den) (W : DrawFn) (a : V) (b : Int) (σ : H) : Ans :=
 callK (D 71 [.int .i64 b, .int .i64 (Int.ofNat 10)] σ) fun u1 s2 =>
 rtStr u1 fun x3 =>
 let s4 := newB s2 (.cells [.str x3]);
 callK (D 18 [a, .sl (H.next s2) 0 1 (.ex 1)] s4) fun u5 s6 =>
 rtTup u5 fun l7 =>
 rtNil l7 (
 some ((V.tup []), s6))
def F54 (N : Nat) (args : List V) (σ : H) : Ans :=
 rtCons args fun x1 l2 =>
 xcI .i64 l2 fun x5 l4 =>
 rtNil l4 (
 T54_0 E D W x1 x5 σ)
def A54 : XFn := ⟨9, [.any, .i], [], C54_0⟩
theorem FE54 (args : List V) (σ : H) : runX E D W N A54 args σ = F54 E D W N args σ := by kernel_rfl

/-! ### F55: __ogham_print.printer_.bounds -/
def q55a : List (Nat × XTy) := [(0, .ptr), (3, .ptr)]
def C55_0 (cc1 : XC) (cc2 : XC) : XC := (.z (.P 3 (.box 67 (.t 1))<|
.nil)
 (.seq (.block 0 (.z (.f 36 1 3<|
.l 37 .bool 36<|
.m 38 37<|
.gA 38 true (.p 39 [3, 38] (.faddr 2 (.t 3))<|
.op (some 40) .bool [39, 38] (.load none (.t 39))<|
.nil) 41 38 40<|
.m 42 41<|
.gA 42 true (.p 43 [3, 42] (.faddr 4 (.t 3))<|
.op (some 44) .i [43, 42] (.load none (.t 43))<|
.p 45 [3, 42] (.faddr 5 (.t 3))<|
.op (some 46) .i [45, 42] (.load none (.t 45))<|
.p 47 [44, 46, 42] (.bin .eql .none (.t 44) (.t 46))<|
.nil) 48 42 47<|
.m 35 48<|
.nil)
 (.cond (.tmp 35) (.draw (.m 49 0<|
.n 50 49<|
.f 51 0 50<|
.f 52 4 3<|
.l 53 .i 52<|
.k 54 y7 54 [(.t 51), (.t 53)]<|
.nil) [0, 1, 3, 0, 8, 31])
 (.seq (.z (.f 4 1 3<|
.l 5 .bool 4<|
.nil)
 (.cond (.tmp 5) (.draw (.m 6 0<|
.n 7 6<|
.f 8 0 7<|
.f 9 4 3<|
.l 10 .i 9<|
.k 11 y7 54 [(.t 8), (.t 10)]<|
.nil) [0, 1, 3, 0, 8, 31])
 (.ops (.m 12 0<|
.n 13 12<|
.f 14 0 13<|
.p 15 [] (.buildSlice 9 1 [y1] [(0, 1, y32)])<|
.k 16 y7 18 [(.t 14), (.t 15)]<|
.nil))))
 (.keep q55a [] [] cc2)))))
 (.keep q55a [] [] cc1)))
def T55_0 (E : List (Nat × Blk)) (D : Den) (W : DrawFn) (K1 : Nat → Nat → Nat → Nat → H → Ans) (K2 : Nat → Nat → Nat → Nat → H → Ans) (a b : Nat) (c d e f : Bool) (g h : Int) (σ : H) : Ans :=
 nbK [.bool c, .bool d, .bool e, .bool f, .int .i64 g, .int .i64 h] σ fun s1 =>
 ldK E s1 (H.next σ) 1 fun u2 =>
 rtBool u2 fun x3 =>
 joinB (fun c4 s5 =>
 joinB (fun c7 s8 =>
 condK c7 (
 ldK E s8 (H.next σ) 4 fun u10 =>
 rtInt .i64 u10 fun x11 =>
 callK (D 54 [.ptr a b, .int .i64 x11] s8) fun u12 s13 =>
 rtTup u12 fun l14 =>
 rtNil l14 (
 K1 a b (H.next σ) 0 s13)) (
 ldK E s8 (H.next σ) 1 fun u15 =>
 rtBool u15 fun x16 =>
 condK x16 (
 ldK E s8 (H.next σ) 4 fun u17 =>
 rtInt .i64 u17 fun x18 =>
 callK (D 54 [.ptr a b, .int .i64 x18] s8) fun u19 s20 =>
 rtTup u19 fun l21 =>
 rtNil l21 (
 K2 a b (H.next σ) 0 s20)) (
 let s22 := newB s8 (.cells [.str (BS.mk 3 5130573)]);
 callK (D 18 [.ptr a b, .sl (H.next s8) 0 1 (.ex 1)] s22) fun u23 s24 =>
 rtTup u23 fun l25 =>
 rtNil l25 (
 K2 a b (H.next σ) 0 s24)))) fun k9 =>
 condK c4 (
 ldK E s5 (H.next σ) 4 fun u26 =>
 rtInt .i64 u26 fun x27 =>
 ldK E s5 (H.next σ) 5 fun u28 =>
 rtInt .i64 u28 fun x29 =>
 k9 (eqF x27 x29) s5) (
 k9 false s5)) fun k6 =>
 condK x3 (
 ldK E s1 (H.next σ) 2 fun u30 =>
 rtBool u30 fun x31 =>
 k6 x31 s1) (
 k6 false s1)
def C55_1 : XC := (.z (.f 55 3 3<|
.l 56 .bool 55<|
.nil)
 (.cond (.tmp 56) (.ops (.m 57 0<|
.n 58 57<|
.f 59 0 58<|
.p 60 [] (.buildSlice 9 1 [y1] [(0, 1, (.con (V.str ⟨5, 198343270444⟩)))])<|
.k 61 y7 18 [(.t 59), (.t 60)]<|
.nil))
 .skip))
def T55_1 (E : List (Nat × Blk)) (D : Den) (W : DrawFn) (a b c d : Nat) (σ : H) : Ans :=
 ldK E σ c (Nat.add d 3) fun u1 =>
 rtBool u1 fun x2 =>
 condK x2 (
 let s3 := newB σ (.cells [.str (BS.mk 5 198343270444)]);
 callK (D 18 [.ptr a b, .sl (H.next σ) 0 1 (.ex 1)] s3) fun u4 s5 =>
 rtTup u4 fun l6 =>
 rtNil l6 (
 some ((V.tup []), s5))) (
 some ((V.tup []), σ))
def C55_2 : XC := (.z (.m 17 0<|
.n 18 17<|
.f 19 0 18<|
.p 20 [] (.buildSlice 9 1 [y1] [(0, 1, y18)])<|
.k 21 y7 18 [(.t 19), (.t 20)]<|
.nil)
 (.z (.f 22 2 3<|
.l 23 .bool 22<|
.nil)
 (.cond (.tmp 23) (.draw (.m 24 0<|
.n 25 24<|
.f 26 0 25<|
.f 27 5 3<|
.l 28 .i 27<|
.k 29 y7 54 [(.t 26), (.t 28)]<|
.nil) [0, 1, 3, 0, 8, 31])
 (.ops (.m 30 0<|
.n 31 30<|
.f 32 0 31<|
.p 33 [] (.buildSlice 9 1 [y1] [(0, 1, (.con (V.str ⟨3, 5783885⟩)))])<|
.k 34 y7 18 [(.t 32), (.t 33)]<|
.nil)))))
def T55_2 (E : List (Nat × Blk)) (D : Den) (W : DrawFn) (K1 : Nat → Nat → Nat → Nat → H → Ans) (a b c d : Nat) (σ : H) : Ans :=
 let s1 := newB σ (.cells [.str (BS.mk 2 11822)]);
 callK (D 18 [.ptr a b, .sl (H.next σ) 0 1 (.ex 1)] s1) fun u2 s3 =>
 rtTup u2 fun l4 =>
 rtNil l4 (
 ldK E s3 c (Nat.add d 2) fun u5 =>
 rtBool u5 fun x6 =>
 condK x6 (
 ldK E s3 c (Nat.add d 5) fun u7 =>
 rtInt .i64 u7 fun x8 =>
 callK (D 54 [.ptr a b, .int .i64 x8] s3) fun u9 s10 =>
 rtTup u9 fun l11 =>
 rtNil l11 (
 K1 a b c d s10)) (
 let s12 := newB s3 (.cells [.str (BS.mk 3 5783885)]);
 callK (D 18 [.ptr a b, .sl (H.next s3) 0 1 (.ex 1)] s12) fun u13 s14 =>
 rtTup u13 fun l15 =>
 rtNil l15 (
 K1 a b c d s14)))
def J55_1 (E : List (Nat × Blk)) (D : Den) (W : DrawFn) (N : Nat) := T55_1 E D W 
def J55_2 := T55_2 E D W (J55_1 E D W N )
def F55 (args : List V) (σ : H) : Ans :=
 rtCons args fun x1 l2 =>
 rtPtr x1 fun b3 o4 =>
 rtCons l2 fun x5 l6 =>
 rtAgg x5 fun l7 =>
 xcB l7 fun x10 l9 =>
 xcB l9 fun x13 l12 =>
 xcB l12 fun x16 l15 =>
 xcB l15 fun x19 l18 =>
 xcI .i64 l18 fun x22 l21 =>
 xcI .i64 l21 fun x25 l24 =>
 rtNil l24 (
 rtNil l6 (
 T55_0 E D W (J55_1 E D W N ) (J55_2 E D W N ) b3 o4 x10 x13 x16 x19 x22 x25 σ))
def A55 : XFn := ⟨62, [.ptr, y2], [], (C55_0 C55_1 C55_2)⟩
theorem FE55 (args : List V) (σ : H) : runX E D W N A55 args σ = F55 E D W N args σ := by kernel_rfl

end
end Go.Proofs.YtabnjnkmdknhaaaGreatDoor
