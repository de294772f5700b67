/- What the last text leans on, part 5 of 5: merged out of smaller texts. No condition. -/
import Derived.Test.YtabnjnkmdknhaaaGreatDoorChecked
import Derived.Test.YtabnjnkmdknhaaaGreatDoorCards
import Derived.KernelRfl
import Derived.Test.YtabnjnkmdknhaaaGreatDoorQ3
set_option linter.all false
set_option maxRecDepth 100000
namespace Go.Proofs.YtabnjnkmdknhaaaGreatDoor
open Go Go.Og
noncomputable section
structure ModS where
  nm : List Nat
  tg : Nat
  az : List (List Nat)
  ks : List Nat
  ns : List NodeS
def stC (az : List (List Nat)) : List V := az.map fun w => .str (ofN w)
def ksC (ks : List Nat) : List V := ks.map fun k => .int .i64 (Int.ofNat k)
def tagP (l : List Tok) : Option (Nat × List Tok) := match isP (BS.mk 8 6073459554577832005) l with
  | (true, l1) => (mustP (BS.mk 4 1397178708) l1).map fun l2 => (0, l2)
  | (false, l1) => match isP (BS.mk 8 6073459554577829193) l1 with
    | (true, l2) => (mustP (BS.mk 4 1397178708) l2).map fun l3 => (1, l3)
    | (false, l2) => match isP (BS.mk 9 1241215773001651606849) l2 with
      | (true, l3) => (mustP (BS.mk 4 1397178708) l3).map fun l4 => (2, l4)
      | (false, l3) => some (0, l3)
def asgP (T : TypT) : Nat → List (List Nat) → List Nat → List NodeS → List Tok → Option (List (List Nat) × List Nat × List NodeS × List Tok)
  | 0, _, _, _, _ => none
  | n + 1, az, ks, ns, l => match isP (BS.mk 3 4476485) l with
    | (true, l1) => some (az, ks, ns, l1)
    | (false, l1) => (kindP 1 l1).bind fun a => match decide (40 ≤ az.length) with
      | true => none
      | false => (mustP (BS.mk 3 4012602) a.2).bind fun l2 => (T 0 l2 ns).bind fun t => asgP T n (az ++ [a.1]) (ks ++ [t.1]) t.2.2 t.2.1
def modP (T : TypT) (ts : List Tok) : Option ModS :=
  (kindP 1 ts).bind fun a => (mustP (BS.mk 11 100710650190388740279911748) a.2).bind fun l1 => (tagP l1).bind fun t =>
    (mustP (BS.mk 3 4012602) t.2).bind fun l2 => (mustP (BS.mk 5 336236856642) l2).bind fun l3 => (asgP T 50 [] [] [] l3).bind fun r =>
      match r.2.2.2 with
      | [] => none
      | e :: _ => match decide (e.1 = 0) with
        | true => some ⟨a.1, t.1, r.1, r.2.1, r.2.2.1⟩
        | false => none
/-- A module that was read: only to be looked at. -/
structure MdS (σ : H) (m : ModS) (nv tv dv : V) : Prop where
  n : Dst σ 1 m.az.length nv (stC m.az)
  t : Src σ 1 m.ks.length tv (ksC m.ks)
  d : ∃ ws : List (V × V), Src σ 16 m.ns.length dv (ndCs m.ns ws) ∧ ws.length = m.ns.length ∧ ∀ (k : Nat) (nd : NodeS) (u : V × V), m.ns[k]? = some nd → ws[k]? = some u → Src σ 3 nd.items.length u.1 (itC nd.items) ∧ Src σ 11 nd.fields.length u.2 (fdC nd.fields)
def mdC (m : ModS) (nv tv dv : V) : List V := [.str (ofN m.nm), .int .i64 (Int.ofNat m.tg), nv, tv, dv]
def SpParse (N : Nat) (T : TypT) (F : List V → H → Ans) : Prop := ∀ (σ : H) (s : BS) (ts : List Tok) (m : ModS), Tidy σ → s.len ≤ 8000 → Tks N s.len s.nats ts → modP T ts = some m →
  ∃ nv tv dv σ', F [.str s] σ = some (.tup [.agg (mdC m nv tv dv), .int .i64 (Int.ofNat 0), .int .i64 (Int.ofNat 0)], σ') ∧ MdS σ' m nv tv dv ∧ Fr Nowhere σ σ'
theorem Tks.fin_ {N len : Nat} {r : List Nat} {ts : List Tok} (h : Tks N len r ts) : ∃ p e, ts = p ++ [e] ∧ e.1 = 0 := by
  induction h with
  | fin _ => exact ⟨[], _, rfl, rfl⟩
  | one _ _ _ ih =>
    obtain ⟨p, e, rfl, h⟩ := ih
    exact ⟨_ :: p, e, rfl, h⟩
theorem Tk.num_ {r w r' : List Nat} {k : Nat} (h : Tk r k w r') (hk : k = 3) : ∃ m ds r, w = numT m ds ∧ NumOk m ds r := by
  cases h with
  | name _ _ he =>
    exfalso
    split at he
    · omega
    · split at he <;> omega
  | num h => exact ⟨_, _, _, rfl, h⟩
  | sign => cases hk
theorem Tks.num_ {N len : Nat} {r : List Nat} {ts : List Tok} (h : Tks N len r ts) : ∀ t ∈ ts, t.1 = 3 → ∃ m ds r, t.2.1 = numT m ds ∧ NumOk m ds r := by
  induction h with
  | fin _ =>
    intro t ht hk
    rw [List.mem_singleton] at ht
    subst ht; cases hk
  | one _ htk _ ih =>
    intro t ht hk
    rcases List.mem_cons.1 ht with rfl | ht
    · exact htk.num_ hk
    · exact ih t ht hk
theorem Tks.ok {N : Nat} {s : BS} {ts : List Tok} (h : Tks N s.len s.nats ts) (hs : s.len ≤ 8000) : TsOk ts := by
  have := h.len
  rw [BS.length_nats] at this
  exact ⟨by omega, h.fin_, h.num_⟩
section
variable {σ σ' : H} {xb : Nat} {lv : V} {ts l l' : List Tok} {R : Rs} {ns : List NodeS} {Q : Nat → Prop}
theorem Pz.set (h : Pz σ xb lv ts l R) {off : Nat} {y : V} (R' : Rs) (hy : y.one = true) (ho : off < 9) (hc : ∀ a, spl (pc lv a R) off [y] = pc lv a R') :
    ∃ σ', (∀ κ : H → Ans, stK 1 xb off y σ κ = κ σ') ∧ Pz σ' xb lv ts l R' ∧ Fr (fun k => k = xb) σ σ' := by
  obtain ⟨a, ha, hl⟩ := h.ex
  obtain ⟨σ', g, f, a'⟩ := stz h.ht ha hy ho
  rw [hc] at a'
  exact ⟨σ', g, ⟨⟨a, a', hl⟩, h.src.fr f h.ht (fun b hb e => h.nx b hb e), h.ne, h.nx, h.ok, f.tidy⟩, f⟩
theorem Pn.set (h : Pn σ xb lv ts l R ns Q) {off : Nat} {y : V} (R' : Rs) (hd : R'.dv = R.dv) (hy : y.one = true) (ho : off < 9) (hc : ∀ a, spl (pc lv a R) off [y] = pc lv a R') :
    ∃ σ', (∀ κ : H → Ans, stK 1 xb off y σ κ = κ σ') ∧ Pn σ' xb lv ts l R' ns Q ∧ Fr (fun k => k = xb) σ σ' := by
  obtain ⟨σ', g, p, f⟩ := h.p.set R' hy ho hc
  obtain ⟨ws, k1, k2, k3⟩ := h.w
  refine ⟨σ', g, ⟨p, ⟨ws, by rw [hd]; exact k1.fr f h.p.ht fun b hb e => (h.dx b hb).1 e, k2, fun k nd u hn hu => ?_⟩, by rw [hd]; exact h.dx⟩, f⟩
  rw [hd]
  obtain ⟨a, b, c⟩ := k3 k nd u hn hu
  exact ⟨a.fr f h.p.ht fun b hb e => (c b (.inl hb)).1 e, b.fr f h.p.ht fun b hb e => (c b (.inr hb)).1 e, c⟩
end
def rzC : List V := [.str (BS.mk 0 0), .int .i64 (Int.ofNat 0), .nils, .nils, .nils]
structure Pm (σ : H) (xb rb : Nat) (lv : V) (ts l : List Tok) (R : Rs) (ns : List NodeS) (az : List (List Nat)) (ks : List Nat) : Prop where
  p : Pn σ xb lv ts l R ns (fun b => Names R.nv b ∨ Names R.tv b ∨ b = rb)
  r : Atc σ rb rzC
  n : Dst σ 1 az.length R.nv (stC az)
  t : Dst σ 1 ks.length R.tv (ksC ks)
  nx : ∀ b, Names R.nv b → b ≠ xb ∧ ¬ Names lv b ∧ ¬ Names R.dv b ∧ ¬ Names R.tv b ∧ b ≠ rb
  tx : ∀ b, Names R.tv b → b ≠ xb ∧ ¬ Names lv b ∧ ¬ Names R.dv b ∧ b ≠ rb
  rx : rb ≠ xb ∧ ¬ Names lv rb ∧ ¬ Names R.dv rb
section
variable {E : List (Nat × Blk)} {D : Den} {W : DrawFn} {N : Nat} {σ σ' : H} {xb rb : Nat} {lv : V} {ts l l' : List Tok} {R : Rs} {ns ns' : List NodeS} {az : List (List Nat)} {ks : List Nat}
theorem Pm.go (h : Pm σ xb rb lv ts l R ns az ks) (p : Pz σ' xb lv ts l' R) (f : Fr (fun k => k = xb) σ σ') : Pm σ' xb rb lv ts l' R ns az ks :=
  ⟨h.p.go p f, f.at_ h.r h.p.p.ht h.rx.1, h.n.fr f h.p.p.ht (fun b hb e => (h.nx b hb).1 e), h.t.fr f h.p.p.ht (fun b hb e => (h.tx b hb).1 e), h.nx, h.tx, h.rx⟩
theorem Pm.q (h : Pm σ xb rb lv ts l R ns az ks) : ∀ b, (Names R.nv b ∨ Names R.tv b ∨ b = rb) → b < σ.next := fun b hb => by
  rcases hb with hb | hb | rfl
  · exact h.n.lt h.p.p.ht hb
  · exact h.t.lt h.p.p.ht hb
  · exact h.r.lt h.p.p.ht
/-- A type was read. -/
theorem Pm.typ (h : Pm σ xb rb lv ts l R ns az ks) {dv' : V} (p : Pn σ' xb lv ts l' (R.wd dv') ns' (fun b => Names R.nv b ∨ Names R.tv b ∨ b = rb)) (f : Fr (PB xb R.dv) σ σ') (m : ∀ b, Names dv' b → Names R.dv b ∨ σ.next ≤ b) : Pm σ' xb rb lv ts l' (R.wd dv') ns' az ks := by
  have ht := h.p.p.ht
  have lt := h.q
  refine ⟨p, f.at_ h.r ht (fun e => e.elim h.rx.1 h.rx.2.2), h.n.fr f ht (fun b hb e => e.elim (h.nx b hb).1 (h.nx b hb).2.2.1), h.t.fr f ht (fun b hb e => e.elim (h.tx b hb).1 (h.tx b hb).2.2.1), fun b hb => ?_, fun b hb => ?_, ?_⟩
  · obtain ⟨h1, h2, h3, h4, h5⟩ := h.nx b hb
    exact ⟨h1, h2, fun e => (m b e).elim h3 (fun e => by have := lt b (.inl hb); omega), h4, h5⟩
  · obtain ⟨h1, h2, h3, h4⟩ := h.tx b hb
    exact ⟨h1, h2, fun e => (m b e).elim h3 (fun e => by have := lt b (.inr (.inl hb)); omega), h4⟩
  · exact ⟨h.rx.1, h.rx.2.1, fun e => (m _ e).elim h.rx.2.2 (fun e => by have := lt rb (.inr (.inr rfl)); omega)⟩
/-- A name more. -/
theorem Pm.name (h : Pm σ xb rb lv ts l R ns az ks) (w : List Nat) (hl : az.length ≤ 4000) : ∃ u σ1 σ2 σ3, newB σ (.cells [.str (ofN w)]) = σ1 ∧ (∀ κ : V → H → Ans, appK E 1 16 R.nv (.sl σ.next 0 1 (.ex 1)) σ1 κ = κ u σ2) ∧ u.one = true ∧ (∀ κ : H → Ans, stK 1 xb 4 u σ2 κ = κ σ3) ∧
    Pm σ3 xb rb lv ts l { R with nv := u } ns (az ++ [w]) ks ∧ Fr (fun b => b = xb ∨ Names R.nv b) σ σ3 ∧ (∀ b, Names u b → Names R.nv b ∨ σ.next ≤ b) := by
  have ht := h.p.p.ht
  have lt := h.q
  obtain ⟨σ1, e1, f1, a1, n1⟩ := mkN ht [.str (ofN w)]
  have xs : Src σ1 1 1 (V.sl σ.next 0 1 (.ex 1)) [.str (ofN w)] := .inr ⟨_, _, _, _, rfl, a1, Nat.le_refl _, rfl⟩
  obtain ⟨u, σ2, g2, d2, m2, f2⟩ := app_all (E := E) (bytes := 16) (h.n.fr f1 ht (fun _ _ h => h)) f1.tidy xs rfl (by unfold growable; simp only [Bool.and_eq_true, Nat.ble_eq]; omega)
  have le1 := f1.le
  have mu : ∀ b, Names u b → Names R.nv b ∨ σ.next ≤ b := fun b hb => (m2 b hb).imp id fun h => by omega
  have f12 : Fr (Names R.nv) σ σ2 := (f1.mono (fun _ _ h => h.elim) : Fr (Names R.nv) σ σ1).trans f2 (fun _ _ e => e)
  have p2 : Pn σ2 xb lv ts l R ns (fun b => (Names R.nv b ∨ Names R.tv b ∨ b = rb) ∨ σ.next ≤ b) := (h.p.ext (Q' := fun b => (Names R.nv b ∨ Names R.tv b ∨ b = rb) ∨ σ.next ≤ b) fun _ h => h).fr f12 (fun e => (h.nx _ e).1 rfl) (fun b hb e => (h.nx b e).2.1 hb) (fun b hb e => (h.nx b e).2.2.1 hb) (fun b _ e => .inl (.inl e))
  obtain ⟨σ3, g3, p3, f3⟩ := p2.set (off := 4) (y := u) { R with nv := u } rfl d2.one (by decide) (fun _ => rfl)
  have lx := h.p.p.lt
  have f13 : Fr (fun b => b = xb ∨ Names R.nv b) σ σ3 := (f12.mono (fun _ _ e => .inr e) : Fr (fun b => b = xb ∨ Names R.nv b) σ σ2).trans f3 (fun _ _ e => .inl e)
  refine ⟨u, σ1, σ2, σ3, e1, g2, d2.one, g3, ⟨p3.ext (fun b hb => ?_), f13.at_ h.r ht (fun e => e.elim h.rx.1 fun e => (h.nx _ e).2.2.2.2 rfl), ?_, h.t.fr f13 ht (fun b hb e => e.elim (h.tx b hb).1 fun e => (h.nx b e).2.2.2.1 hb), fun b hb => ?_, h.tx, h.rx⟩, f13, mu⟩
  · rcases hb with hb | hb
    · exact (mu b hb).elim (fun e => .inl (.inl (.inl e))) (fun e => .inl (.inr e))
    · exact .inl (.inl (.inr hb))
  · have d3 := d2.fr f3 f2.tidy (fun b hb e => (mu b hb).elim (fun h' => (h.nx b h').1 e) (fun h => by omega))
    rw [List.length_append]
    show Dst σ3 1 (az.length + 1) u (stC (az ++ [w]))
    rw [show stC (az ++ [w]) = stC az ++ [.str (ofN w)] by unfold stC; simp]
    exact d3
  · rcases mu b hb with e | e
    · exact h.nx b e
    · exact ⟨by omega, fun hn => by have := h.p.llt hn; omega, fun hn => by have := h.p.dlt hn; omega, fun hn => by have := lt b (.inr (.inl hn)); omega, fun hn => by have := lt b (.inr (.inr hn)); omega⟩
/-- A type more. -/
theorem Pm.more (h : Pm σ xb rb lv ts l R ns az ks) (k : Nat) (hl : ks.length ≤ 4000) : ∃ u σ1 σ2 σ3, newB σ (.cells [.int .i64 (Int.ofNat k)]) = σ1 ∧ (∀ κ : V → H → Ans, appK E 1 8 R.tv (.sl σ.next 0 1 (.ex 1)) σ1 κ = κ u σ2) ∧ u.one = true ∧ (∀ κ : H → Ans, stK 1 xb 5 u σ2 κ = κ σ3) ∧
    Pm σ3 xb rb lv ts l { R with tv := u } ns az (ks ++ [k]) ∧ Fr (fun b => b = xb ∨ Names R.tv b) σ σ3 ∧ (∀ b, Names u b → Names R.tv b ∨ σ.next ≤ b) := by
  have ht := h.p.p.ht
  have lt := h.q
  obtain ⟨σ1, e1, f1, a1, n1⟩ := mkN ht [.int .i64 (Int.ofNat k)]
  have xs : Src σ1 1 1 (V.sl σ.next 0 1 (.ex 1)) [.int .i64 (Int.ofNat k)] := .inr ⟨_, _, _, _, rfl, a1, Nat.le_refl _, rfl⟩
  obtain ⟨u, σ2, g2, d2, m2, f2⟩ := app_all (E := E) (bytes := 8) (h.t.fr f1 ht (fun _ _ h => h)) f1.tidy xs rfl (by unfold growable; simp only [Bool.and_eq_true, Nat.ble_eq]; omega)
  have le1 := f1.le
  have mu : ∀ b, Names u b → Names R.tv b ∨ σ.next ≤ b := fun b hb => (m2 b hb).imp id fun h => by omega
  have f12 : Fr (Names R.tv) σ σ2 := (f1.mono (fun _ _ h => h.elim) : Fr (Names R.tv) σ σ1).trans f2 (fun _ _ e => e)
  have p2 : Pn σ2 xb lv ts l R ns (fun b => (Names R.nv b ∨ Names R.tv b ∨ b = rb) ∨ σ.next ≤ b) := (h.p.ext (Q' := fun b => (Names R.nv b ∨ Names R.tv b ∨ b = rb) ∨ σ.next ≤ b) fun _ h => h).fr f12 (fun e => (h.tx _ e).1 rfl) (fun b hb e => (h.tx b e).2.1 hb) (fun b hb e => (h.tx b e).2.2.1 hb) (fun b _ e => .inl (.inr (.inl e)))
  obtain ⟨σ3, g3, p3, f3⟩ := p2.set (off := 5) (y := u) { R with tv := u } rfl d2.one (by decide) (fun _ => rfl)
  have lx := h.p.p.lt
  have f13 : Fr (fun b => b = xb ∨ Names R.tv b) σ σ3 := (f12.mono (fun _ _ e => .inr e) : Fr (fun b => b = xb ∨ Names R.tv b) σ σ2).trans f3 (fun _ _ e => .inl e)
  refine ⟨u, σ1, σ2, σ3, e1, g2, d2.one, g3, ⟨p3.ext (fun b hb => ?_), f13.at_ h.r ht (fun e => e.elim h.rx.1 fun e => (h.tx _ e).2.2.2 rfl), h.n.fr f13 ht (fun b hb e => e.elim (h.nx b hb).1 (h.nx b hb).2.2.2.1), ?_, fun b hb => ?_, fun b hb => ?_, h.rx⟩, f13, mu⟩
  · rcases hb with hb | hb | hb
    · exact .inl (.inl (.inl hb))
    · exact (mu b hb).elim (fun e => .inl (.inl (.inr (.inl e)))) (fun e => .inl (.inr e))
    · exact .inl (.inl (.inr (.inr hb)))
  · have d3 := d2.fr f3 f2.tidy (fun b hb e => (mu b hb).elim (fun h' => (h.tx b h').1 e) (fun h => by omega))
    rw [List.length_append]
    show Dst σ3 1 (ks.length + 1) u (ksC (ks ++ [k]))
    rw [show ksC (ks ++ [k]) = ksC ks ++ [.int .i64 (Int.ofNat k)] by unfold ksC; simp]
    exact d3
  · obtain ⟨h1, h2, h3, h4, h5⟩ := h.nx b hb
    exact ⟨h1, h2, h3, fun e => (mu b e).elim h4 (fun e => by have := lt b (.inl hb); omega), h5⟩
  · rcases mu b hb with e | e
    · exact h.tx b e
    · exact ⟨by omega, fun hn => by have := h.p.llt hn; omega, fun hn => by have := h.p.dlt hn; omega, fun hn => by have := lt b (.inr (.inr hn)); omega⟩
end
end
end Go.Proofs.YtabnjnkmdknhaaaGreatDoor
set_option linter.all false
set_option maxRecDepth 100000
namespace Go.Proofs.YtabnjnkmdknhaaaGreatDoor
open Go Go.Og
noncomputable section
section
variable {E : List (Nat × Blk)} {D : Den} {N : Nat}
theorem par_end {σ : H} {xb rb : Nat} {lv : V} {ts l : List Tok} {nm : List Nat} {tg : Nat} {nv tv dv : V} {ns : List NodeS} {az : List (List Nat)} {ks : List Nat} {e : Tok} (hN : SpNow (D 13)) (h : Pm σ xb rb lv ts (e :: l) ⟨ofN nm, Int.ofNat tg, nv, tv, dv⟩ ns az ks) (he : decide (e.1 = 0) = true) :
    ∃ σ', T5_2 E D (drawW E D) (T5_5 E D (drawW E D)) rb 0 xb 0 σ = some (.tup [.agg (mdC ⟨nm, tg, az, ks, ns⟩ nv tv dv), .int .i64 (Int.ofNat 0), .int .i64 (Int.ofNat 0)], σ') ∧ MdS σ' ⟨nm, tg, az, ks, ns⟩ nv tv dv ∧ Fr (fun k => k = rb) σ σ' := by
  have ht := h.p.p.ht
  obtain ⟨a, ha, _⟩ := h.p.p.ex
  unfold pc at ha
  obtain ⟨ws, k1, k2, k3⟩ := h.p.w
  have gn := hN h.p.p
  unfold tokC at gn
  have ho : allOne (mdC ⟨nm, tg, az, ks, ns⟩ nv tv dv) = true := by
    unfold mdC
    simp only [allOne_cons, allOne_nil, one_int, one_str, h.n.one, h.t.one, k1.one, Bool.and_true]
  obtain ⟨σ', e1, f1, a1⟩ := mkS ht h.r (mdC ⟨nm, tg, az, ks, ns⟩ nv tv dv)
  have hr := h.r
  have g1 : ∀ κ : H → Ans, stK 5 rb 0 (.agg [.str (ofN nm), .int .i64 (Int.ofNat tg), nv, tv, dv]) σ κ = κ σ' := fun κ => by
    rw [stK_at hr (show _ = true by
      rw [cells_agg]
      show (true && true && allOne (mdC ⟨nm, tg, az, ks, ns⟩ nv tv dv)) = true
      rw [ho]; rfl)]
    show κ (setF σ rb (.cells (mdC ⟨nm, tg, az, ks, ns⟩ nv tv dv))) = _
    rw [e1]
  refine ⟨σ', ?_, ⟨h.n.fr f1 ht (fun b hb e => (h.nx b hb).2.2.2.2 e), (h.t.fr f1 ht (fun b hb e => (h.tx b hb).2.2.2 e)).src, ws, (k1.fr f1 ht (fun b hb e => h.rx.2.2 (e ▸ hb))).src, k2, fun k nd u hn hu => ?_⟩, f1⟩
  · have sub : ∀ κ : List V → Ans, subK [lv, .int .i64 (Int.ofNat a), .str (ofN nm), .int .i64 (Int.ofNat tg), nv, tv, dv, .int .i64 (Int.ofNat 0), .int .i64 (Int.ofNat 0)] 2 5 κ = κ [.str (ofN nm), .int .i64 (Int.ofNat tg), nv, tv, dv] := fun κ => by
      rw [subK_of (by simp)]; rfl
    have sub5 : ∀ κ : List V → Ans, subK [.str (ofN nm), .int .i64 (Int.ofNat tg), nv, tv, dv] 0 5 κ = κ [.str (ofN nm), .int .i64 (Int.ofNat tg), nv, tv, dv] := fun κ => by
      rw [subK_of (by simp)]; rfl
    unfold mdC at a1
    unfold T5_2 T5_5
    simp -implicitDefEqProofs only [↓rP, rA, Nat.reduceEqDiff, Nat.reduceLT, Nat.reduceLeDiff, ↓ldK_is ha, ↓ldnK_is ha, ↓gn, he, ↓sub, ↓g1, ↓ldnK_is a1, ↓sub5]
    rfl
  · obtain ⟨x1, x2, x3⟩ := k3 k nd u hn hu
    exact ⟨x1.fr f1 ht (fun b hb e => (x3 b (.inl hb)).2.2 (.inr (.inr e))), x2.fr f1 ht (fun b hb e => (x3 b (.inr hb)).2.2 (.inr (.inr e)))⟩
theorem asg_L {T : TypT} (hN : SpNow (D 13)) (hI : SpIs (D 12)) (hM : SpMust (D 11)) (hK : SpKind (D 10)) (hT : SpTypT T (D 15)) {xb rb : Nat} {lv : V} {ts : List Tok} {nm : List Nat} {tg : Nat} : ∀ (n k : Nat) {σ : H} {l : List Tok} {nv tv dv : V} {ns : List NodeS} {az : List (List Nat)} {ks : List Nat} {r : List (List Nat) × List Nat × List NodeS × List Tok} {e : Tok} {l' : List Tok},
    Pm σ xb rb lv ts l ⟨ofN nm, Int.ofNat tg, nv, tv, dv⟩ ns az ks → n < k → ks.length = az.length → asgP T n az ks ns l = some r → r.2.2.2 = e :: l' → decide (e.1 = 0) = true →
    ∃ nv' tv' dv' σ', L5_3 E D (drawW E D) N k rb 0 xb 0 σ = some (.tup [.agg (mdC ⟨nm, tg, r.1, r.2.1, r.2.2.1⟩ nv' tv' dv'), .int .i64 (Int.ofNat 0), .int .i64 (Int.ofNat 0)], σ') ∧ MdS σ' ⟨nm, tg, r.1, r.2.1, r.2.2.1⟩ nv' tv' dv' ∧ Fr (fun b => b = rb ∨ b = xb ∨ Names nv b ∨ Names tv b ∨ Names dv b) σ σ' := by
  intro n
  induction n with
  | zero => intro k σ l nv tv dv ns az ks r e l' h hk hs0 hs; cases hs
  | succ n ih =>
    intro k σ l nv tv dv ns az ks r e l' h hk hs0 hs hr he
    obtain ⟨k, rfl⟩ : ∃ j, k = j + 1 := ⟨k - 1, by omega⟩
    obtain ⟨a, ha, _⟩ := h.p.p.ex
    unfold pc at ha
    obtain ⟨σ1, g1, p1, f1⟩ := hI (BS.mk 3 4476485) h.p.p
    show ∃ nv' tv' dv' σ', T5_3 E D (drawW E D) (T5_2 E D (drawW E D) (T5_5 E D (drawW E D))) (T5_4 E D (drawW E D) (L5_3 E D (drawW E D) N k)) rb 0 xb 0 σ = _ ∧ _
    have hs : (match isP (BS.mk 3 4476485) l with
      | (true, l1) => some (az, ks, ns, l1)
      | (false, l1) => (kindP 1 l1).bind fun a => match decide (40 ≤ az.length) with
        | true => none
        | false => (mustP (BS.mk 3 4012602) a.2).bind fun l2 => (T 0 l2 ns).bind fun t => asgP T n (az ++ [a.1]) (ks ++ [t.1]) t.2.2 t.2.1 : Option (List (List Nat) × List Nat × List NodeS × List Tok)) = some r := hs
    cases hp : isP (BS.mk 3 4476485) l with
    | mk c l1 =>
      rw [hp] at hs g1 p1
      have h1 := h.go p1 f1
      cases c with
      | true =>
        cases hs
        have hr : l1 = e :: l' := hr
        subst hr
        obtain ⟨σ2, g2, m2, f2⟩ := par_end (E := E) hN h1 he
        refine ⟨nv, tv, dv, σ2, ?_, m2, (f1.mono (fun _ _ e => .inr (.inl e)) : Fr (fun b => b = rb ∨ b = xb ∨ Names nv b ∨ Names tv b ∨ Names dv b) σ σ1).trans f2 (fun _ _ e => .inl e)⟩
        have key : ∀ K4, T5_3 E D (drawW E D) (T5_2 E D (drawW E D) (T5_5 E D (drawW E D))) K4 rb 0 xb 0 σ = T5_2 E D (drawW E D) (T5_5 E D (drawW E D)) rb 0 xb 0 σ1 := by
          intro K4
          unfold T5_3
          simp -implicitDefEqProofs only [↓rP, rA, Nat.reduceEqDiff, Nat.reduceLT, Nat.reduceLeDiff, ↓ldK_is ha, ↓g1]
        rw [key]; exact g2
      | false =>
        have hs : ((kindP 1 l1).bind fun a => match decide (40 ≤ az.length) with
          | true => none
          | false => (mustP (BS.mk 3 4012602) a.2).bind fun l2 => (T 0 l2 ns).bind fun t => asgP T n (az ++ [a.1]) (ks ++ [t.1]) t.2.2 t.2.1 : Option (List (List Nat) × List Nat × List NodeS × List Tok)) = some r := hs
        obtain ⟨⟨w, l2⟩, hw, hs⟩ := Option.bind_eq_some_iff.1 hs
        have hs : (match decide (40 ≤ az.length) with
          | true => none
          | false => (mustP (BS.mk 3 4012602) l2).bind fun l2 => (T 0 l2 ns).bind fun t => asgP T n (az ++ [w]) (ks ++ [t.1]) t.2.2 t.2.1 : Option (List (List Nat) × List Nat × List NodeS × List Tok)) = some r := hs
        cases hd : decide (40 ≤ az.length) with
        | true => rw [hd] at hs; cases hs
        | false =>
          rw [hd] at hs
          obtain ⟨l3, hm, hs⟩ := Option.bind_eq_some_iff.1 hs
          obtain ⟨⟨i, l4, ns4⟩, ht, hs⟩ := Option.bind_eq_some_iff.1 hs
          have hs9 : asgP T n (az ++ [w]) (ks ++ [i]) ns4 l4 = some r := hs
          have hlen : az.length < 40 := by have := of_decide_eq_false hd; omega
          obtain ⟨t1, l1', rfl⟩ : ∃ t1 l1', l1 = t1 :: l1' := by
            cases l1 with
            | nil => cases hw
            | cons t l1 => exact ⟨t, l1, rfl⟩
          have gn := hN p1
          unfold tokC at gn
          obtain ⟨σ2, g2, p2, f2⟩ := hK p1 hw
          have h2 := h1.go p2 f2
          obtain ⟨a2, ha2, _⟩ := p2.ex
          unfold pc at ha2
          obtain ⟨σ3, g3, p3, f3⟩ := hM p2 hm
          have h3 := h2.go p3 f3
          obtain ⟨dv4, σ4, g4, p4, f4, m4⟩ := hT (d := 0) h3.p h3.q (by omega) ht
          have h4 : Pm σ4 xb rb lv ts l4 ⟨ofN nm, Int.ofNat tg, nv, tv, dv4⟩ ns4 az ks := h3.typ p4 f4 m4
          obtain ⟨a4, ha4, _⟩ := h4.p.p.ex
          unfold pc at ha4
          obtain ⟨u5, σ5, σ6, σ7, e5, g5, o5, s5, h7, f7, m7⟩ := h4.name (E := E) w (by omega)
          have h7 : Pm σ7 xb rb lv ts l4 ⟨ofN nm, Int.ofNat tg, u5, tv, dv4⟩ ns4 (az ++ [w]) ks := h7
          obtain ⟨a7, ha7, _⟩ := h7.p.p.ex
          unfold pc at ha7
          obtain ⟨u8, σ8, σ9, σ10, e8, g8, o8, s8, h10, f10, m10⟩ := h7.more (E := E) i (by omega)
          have h10 : Pm σ10 xb rb lv ts l4 ⟨ofN nm, Int.ofNat tg, u5, u8, dv4⟩ ns4 (az ++ [w]) (ks ++ [i]) := h10
          obtain ⟨nv', tv', dv', σ', g', m', f'⟩ := ih k h10 (by omega) (by simp [hs0]) hs9 hr he
          refine ⟨nv', tv', dv', σ', ?_, m', ?_⟩
          · have key : ∀ K2 R3, T5_3 E D (drawW E D) K2 (T5_4 E D (drawW E D) R3) rb 0 xb 0 σ = R3 rb 0 xb 0 σ10 := by
              intro K2 R3
              unfold T5_3 T5_4
              simp -implicitDefEqProofs only [↓rP, rA, Nat.reduceEqDiff, Nat.reduceLT, Nat.reduceLeDiff, ↓ldK_is ha, ↓g1, ↓gn, ↓g2, ↓ldK_is ha2, h2.n.slen, hd, ↓g3, ↓g4, ↓ldK_is ha4, ↓e5, ↓g5, ↓rtOne_of o5, ↓s5, ↓ldK_is ha7, ↓e8, ↓g8, ↓rtOne_of o8, ↓s8]
            rw [key]; exact g'
          · have le1 := f1.le
            have le2 := f2.le
            have le3 := f3.le
            have le4 := f4.le
            have le7 := f7.le
            have m7 : ∀ b, Names u5 b → Names nv b ∨ σ4.next ≤ b := m7
            have m10 : ∀ b, Names u8 b → Names tv b ∨ σ7.next ≤ b := m10
            have m4 : ∀ b, Names dv4 b → Names dv b ∨ σ3.next ≤ b := m4
            refine ((((((f1.mono (fun _ _ e => .inr (.inl e)) : Fr (fun b => b = rb ∨ b = xb ∨ Names nv b ∨ Names tv b ∨ Names dv b) σ σ1).trans f2 (fun _ _ e => .inr (.inl e))).trans f3 (fun _ _ e => .inr (.inl e))).trans f4 (fun b _ e => e.elim (fun e => .inr (.inl e)) fun e => .inr (.inr (.inr (.inr e))))).trans f7 (fun b _ e => e.elim (fun e => .inr (.inl e)) fun e => .inr (.inr (.inl e)))).trans f10 (fun b _ e => e.elim (fun e => .inr (.inl e)) fun e => .inr (.inr (.inr (.inl e))))).trans f' (fun b hb e => ?_)
            rcases e with e | e | e | e | e
            · exact .inl e
            · exact .inr (.inl e)
            · exact (m7 b e).elim (fun e => .inr (.inr (.inl e))) (fun e => by omega)
            · exact (m10 b e).elim (fun e => .inr (.inr (.inr (.inl e)))) (fun e => by omega)
            · exact (m4 b e).elim (fun e => .inr (.inr (.inr (.inr e)))) (fun e => by omega)
theorem fill1 {u a b c d e f g i : V} (h : u.one = true) (κ : List V → Ans) : fillK [(0, 1, u)] [.nils, a, b, c, d, e, f, g, i] κ = κ [u, a, b, c, d, e, f, g, i] := by
  obtain ⟨h1, h2⟩ := one_live h
  unfold fillK fillA
  rw [h1, h2]
  rfl
theorem par_open (hN : SpNow (D 13)) (hI : SpIs (D 12)) (hM : SpMust (D 11)) (hK : SpKind (D 10)) (hR : SpTks N (D 9)) {σ : H} {s : BS} {ts l l1 : List Tok} {w : List Nat} {t : Nat × List Tok} (ht : Tidy σ) (hs : s.len ≤ 8000) (hts : Tks N s.len s.nats ts) (h1 : kindP 1 ts = some (w, l)) (h2 : mustP (BS.mk 11 100710650190388740279911748) l = some l1) (h3 : tagP l1 = some t) :
    ∃ xb lv σ', (∀ K1, T5_0 E D (drawW E D) K1 s σ = K1 σ.next 0 xb 0 σ') ∧ Pm σ' xb σ.next lv ts t.2 ⟨ofN w, Int.ofNat t.1, .nils, .nils, .nils⟩ [] [] [] ∧ σ.next ≤ xb ∧ Fr Nowhere σ σ' := by
  obtain ⟨σ1, e1, f1, a1, n1⟩ := mkN ht rzC
  obtain ⟨lv, σ2, g2, d2, m2, f2⟩ := hR σ1 s ts f1.tidy hs hts
  have le1 := f1.le
  have le2 := f2.le
  have a2 := f2.at_ a1 f1.tidy (fun h => h)
  obtain ⟨σ3, e3, f3, a3, n3⟩ := mkN f2.tidy (pc lv 0 ⟨BS.mk 0 0, Int.ofNat 0, .nils, .nils, .nils⟩)
  have ll : ∀ b, Names lv b → b < σ2.next := fun b hb => d2.lt f2.tidy hb
  have p3 : Pz σ3 σ2.next lv ts ts ⟨BS.mk 0 0, Int.ofNat 0, .nils, .nils, .nils⟩ := ⟨⟨0, a3, rfl⟩, (d2.fr f3 f2.tidy (fun _ _ h => h)).src, (fun e => by subst e; cases h1), fun b hb => by have := ll b hb; omega, hts.ok hs, f3.tidy⟩
  obtain ⟨σ4, g4, p4, f4⟩ := hK p3 h1
  obtain ⟨σ5, g5, p5, f5⟩ := p4.set (off := 2) (y := .str (ofN w)) ⟨ofN w, Int.ofNat 0, .nils, .nils, .nils⟩ rfl (by decide) (fun _ => rfl)
  obtain ⟨σ6, g6, p6, f6⟩ := hM p5 h2
  have f36 := (f4.trans f5 (fun _ _ e => e)).trans f6 (fun _ _ e => e)
  obtain ⟨σ7, g7, p7, f7⟩ := hI (BS.mk 8 6073459554577832005) p6
  have f37 := f36.trans f7 (fun _ _ e => e)
  have fin : ∀ {σ' : H} {t : Nat × List Tok}, Pz σ' σ2.next lv ts t.2 ⟨ofN w, Int.ofNat t.1, .nils, .nils, .nils⟩ → Fr (fun k => k = σ2.next) σ3 σ' → Pm σ' σ2.next σ.next lv ts t.2 ⟨ofN w, Int.ofNat t.1, .nils, .nils, .nils⟩ [] [] [] ∧ σ.next ≤ σ2.next ∧ Fr Nowhere σ σ' := by
    intro σ' t p f
    refine ⟨⟨⟨p, ⟨[], Dst.nil _ _, rfl, fun k nd u h => by simp at h⟩, fun b hb => hb.elim⟩, f.at_ (f3.at_ a2 f2.tidy (fun h => h)) f3.tidy (fun e => by omega), Dst.nil _ _, Dst.nil _ _, fun b hb => hb.elim, fun b hb => hb.elim, by omega, fun hn => ?_, fun h => h⟩, by omega, ((f1.trans f2 (fun _ _ h => h)).trans f3 (fun _ _ h => h)).trans f (fun b hb e => by omega)⟩
    have := m2 _ hn; omega
  unfold pc at e3
  have e3' : newB σ2 (.cells [lv, .int .i64 (Int.ofNat 0), .str ⟨0, 0⟩, .int .i64 (Int.ofNat 0), .nils, .nils, .nils, .int .i64 (Int.ofNat 0), .int .i64 (Int.ofNat 0)]) = σ3 := e3
  have e1' : newB σ (.cells [.str ⟨0, 0⟩, .int .i64 (Int.ofNat 0), .nils, .nils, .nils]) = σ1 := e1
  unfold T5_0
  cases hp : isP (BS.mk 8 6073459554577832005) l1 with
  | mk c l2 =>
    rw [hp] at g7 p7
    have h3 : (match isP (BS.mk 8 6073459554577832005) l1 with
      | (true, l1) => (mustP (BS.mk 4 1397178708) l1).map fun l2 => (0, l2)
      | (false, l1) => match isP (BS.mk 8 6073459554577829193) l1 with
        | (true, l2) => (mustP (BS.mk 4 1397178708) l2).map fun l3 => (1, l3)
        | (false, l2) => match isP (BS.mk 9 1241215773001651606849) l2 with
          | (true, l3) => (mustP (BS.mk 4 1397178708) l3).map fun l4 => (2, l4)
          | (false, l3) => some (0, l3) : Option (Nat × List Tok)) = some t := h3
    rw [hp] at h3
    cases c with
    | true =>
      obtain ⟨l3, hm, he⟩ := Option.map_eq_some_iff.1 h3
      cases he
      obtain ⟨σ8, g8, p8, f8⟩ := hM p7 hm
      obtain ⟨q1, q2, q3⟩ := fin (t := (0, l3)) p8 (f37.trans f8 (fun _ _ e => e))
      refine ⟨_, lv, σ8, fun K1 => ?_, q1, q2, q3⟩
      simp -implicitDefEqProofs only [↓rP, rA, Nat.reduceEqDiff, Nat.reduceLT, Nat.reduceLeDiff, ↓e1', ↓g2, ↓fill1 d2.one, d2.one, ↓e3', ↓g4, ↓g5, ↓g6, ↓g7, ↓g8]
    | false =>
      obtain ⟨σ8, g8, p8, f8⟩ := hI (BS.mk 8 6073459554577829193) p7
      have f38 := f37.trans f8 (fun _ _ e => e)
      cases hp8 : isP (BS.mk 8 6073459554577829193) l2 with
      | mk c l3 =>
        rw [hp8] at g8 p8
        have h3 : (match isP (BS.mk 8 6073459554577829193) l2 with
          | (true, l2) => (mustP (BS.mk 4 1397178708) l2).map fun l3 => (1, l3)
          | (false, l2) => match isP (BS.mk 9 1241215773001651606849) l2 with
            | (true, l3) => (mustP (BS.mk 4 1397178708) l3).map fun l4 => (2, l4)
            | (false, l3) => some (0, l3) : Option (Nat × List Tok)) = some t := h3
        rw [hp8] at h3
        cases c with
        | true =>
          obtain ⟨l4, hm, he⟩ := Option.map_eq_some_iff.1 h3
          cases he
          obtain ⟨σ9, g9, p9, f9⟩ := p8.set (off := 3) (y := .int .i64 (Int.ofNat 1)) ⟨ofN w, Int.ofNat 1, .nils, .nils, .nils⟩ rfl (by decide) (fun _ => rfl)
          obtain ⟨σ10, g10, p10, f10⟩ := hM p9 hm
          obtain ⟨q1, q2, q3⟩ := fin (t := (1, l4)) p10 ((f38.trans f9 (fun _ _ e => e)).trans f10 (fun _ _ e => e))
          refine ⟨_, lv, σ10, fun K1 => ?_, q1, q2, q3⟩
          simp -implicitDefEqProofs only [↓rP, rA, Nat.reduceEqDiff, Nat.reduceLT, Nat.reduceLeDiff, ↓e1', ↓g2, ↓fill1 d2.one, d2.one, ↓e3', ↓g4, ↓g5, ↓g6, ↓g7, ↓g8, ↓g9, ↓g10]
        | false =>
          obtain ⟨σ9, g9, p9, f9⟩ := hI (BS.mk 9 1241215773001651606849) p8
          have f39 := f38.trans f9 (fun _ _ e => e)
          cases hp9 : isP (BS.mk 9 1241215773001651606849) l3 with
          | mk c l4 =>
            rw [hp9] at g9 p9
            have h3 : (match isP (BS.mk 9 1241215773001651606849) l3 with
              | (true, l3) => (mustP (BS.mk 4 1397178708) l3).map fun l4 => (2, l4)
              | (false, l3) => some (0, l3) : Option (Nat × List Tok)) = some t := h3
            rw [hp9] at h3
            cases c with
            | true =>
              obtain ⟨l5, hm, he⟩ := Option.map_eq_some_iff.1 h3
              cases he
              obtain ⟨σ10, g10, p10, f10⟩ := p9.set (off := 3) (y := .int .i64 (Int.ofNat 2)) ⟨ofN w, Int.ofNat 2, .nils, .nils, .nils⟩ rfl (by decide) (fun _ => rfl)
              obtain ⟨σ11, g11, p11, f11⟩ := hM p10 hm
              obtain ⟨q1, q2, q3⟩ := fin (t := (2, l5)) p11 ((f39.trans f10 (fun _ _ e => e)).trans f11 (fun _ _ e => e))
              refine ⟨_, lv, σ11, fun K1 => ?_, q1, q2, q3⟩
              simp -implicitDefEqProofs only [↓rP, rA, Nat.reduceEqDiff, Nat.reduceLT, Nat.reduceLeDiff, ↓e1', ↓g2, ↓fill1 d2.one, d2.one, ↓e3', ↓g4, ↓g5, ↓g6, ↓g7, ↓g8, ↓g9, ↓g10, ↓g11]
            | false =>
              cases h3
              obtain ⟨q1, q2, q3⟩ := fin (t := (0, l4)) p9 f39
              refine ⟨_, lv, σ9, fun K1 => ?_, q1, q2, q3⟩
              simp -implicitDefEqProofs only [↓rP, rA, Nat.reduceEqDiff, Nat.reduceLT, Nat.reduceLeDiff, ↓e1', ↓g2, ↓fill1 d2.one, d2.one, ↓e3', ↓g4, ↓g5, ↓g6, ↓g7, ↓g8, ↓g9]
theorem parse_F {T : TypT} (hN : SpNow (D 13)) (hI : SpIs (D 12)) (hM : SpMust (D 11)) (hK : SpKind (D 10)) (hR : SpTks N (D 9)) (hT : SpTypT T (D 15)) (hF : 1000 < N) : SpParse N T (F5 E D (drawW E D) N) := by
  intro σ s ts m ht hs hts hm
  obtain ⟨⟨w, l⟩, h1, hm⟩ := Option.bind_eq_some_iff.1 hm
  obtain ⟨l1, h2, hm⟩ := Option.bind_eq_some_iff.1 hm
  obtain ⟨⟨tg, l2⟩, h3, hm⟩ := Option.bind_eq_some_iff.1 hm
  obtain ⟨l3, h4, hm⟩ := Option.bind_eq_some_iff.1 hm
  obtain ⟨l4, h5, hm⟩ := Option.bind_eq_some_iff.1 hm
  obtain ⟨r, h6, hm⟩ := Option.bind_eq_some_iff.1 hm
  obtain ⟨xb, lv, σ1, g1, p1, lx, f1⟩ := par_open (E := E) hN hI hM hK hR ht hs hts h1 h2 h3
  obtain ⟨σ2, g2, p2, f2⟩ := hM p1.p.p h4
  obtain ⟨σ3, g3, p3, f3⟩ := hM p2 h5
  have q3 := (p1.go p2 f2).go p3 f3
  cases he : r.2.2.2 with
  | nil => rw [he] at hm; cases hm
  | cons e l' =>
    rw [he] at hm
    have hm : (match decide (e.1 = 0) with
      | true => some (⟨w, tg, r.1, r.2.1, r.2.2.1⟩ : ModS)
      | false => none) = some m := hm
    cases h0 : decide (e.1 = 0) with
    | false => rw [h0] at hm; cases hm
    | true =>
      rw [h0] at hm
      cases hm
      obtain ⟨nv, tv, dv, σ4, g4, m4, f4⟩ := asg_L (E := E) (N := N) hN hI hM hK hT 50 N q3 (by omega) rfl h6 he h0
      refine ⟨nv, tv, dv, σ4, ?_, m4, ((f1.trans f2 (fun b hb e => by omega)).trans f3 (fun b hb e => by omega)).trans f4 (fun b hb e => ?_)⟩
      · show T5_0 E D (drawW E D) (T5_1 E D (drawW E D) (L5_3 E D (drawW E D) N N)) s σ = _
        rw [g1]
        have key : ∀ K3, T5_1 E D (drawW E D) K3 σ.next 0 xb 0 σ1 = K3 σ.next 0 xb 0 σ3 := by
          intro K3
          unfold T5_1
          simp -implicitDefEqProofs only [↓rP, rA, Nat.reduceEqDiff, Nat.reduceLT, Nat.reduceLeDiff, ↓g2, ↓g3]
        rw [key]; exact g4
      · rcases e with e | e | e | e | e
        · omega
        · omega
        · exact e.elim
        · exact e.elim
        · exact e.elim
end
end
end Go.Proofs.YtabnjnkmdknhaaaGreatDoor
set_option linter.all false
set_option maxRecDepth 100000
namespace Go.Proofs.YtabnjnkmdknhaaaGreatDoor
open Go Go.Og
noncomputable section
theorem cat_canon {a b : BS} (hb : b.canon) : (a.cat b).canon := by
  show a.low ||| b.val <<< (8 * a.len) < 2 ^ (8 * (a.len + b.len))
  have h0 : a.low < 2 ^ (8 * a.len) := Nat.mod_lt _ (Nat.pow_pos (by decide))
  have h1 : a.low < 2 ^ (8 * (a.len + b.len)) := Nat.lt_of_lt_of_le h0 (Nat.pow_le_pow_right (by decide) (by omega))
  have h2 : b.val <<< (8 * a.len) < 2 ^ (8 * (a.len + b.len)) := by
    rw [Nat.shiftLeft_eq, Nat.mul_add, Nat.add_comm, Nat.pow_add]
    exact Nat.mul_lt_mul_of_pos_right hb (Nat.pow_pos (by decide))
  exact Nat.or_lt_two_pow h1 h2
theorem ofN_cat {a b : List Nat} (ha : ∀ c ∈ a, c < 256) (hb : ∀ c ∈ b, c < 256) : (ofN a).cat (ofN b) = ofN (a ++ b) := by
  have hab : ∀ c ∈ a ++ b, c < 256 := fun c hc => by
    rcases List.mem_append.1 hc with h | h
    · exact ha c h
    · exact hb c h
  exact BS.canon_ext (cat_canon (ofN_canon hb)) (ofN_canon hab) (by rw [BS.nats_cat, ofN_nats ha, ofN_nats hb, ofN_nats hab])
theorem catK_ofN {a b : List Nat} (ha : ∀ c ∈ a, c < 256) (hb : ∀ c ∈ b, c < 256) (hl : a.length + b.length ≤ 1000000) (κ : BS → Ans) : catK (ofN a) (ofN b) κ = κ (ofN (a ++ b)) := by
  unfold catK
  rw [show Nat.ble (Nat.add (ofN a).len (ofN b).len) 1000000000000 = true from ble_of (by rw [ofN_len, ofN_len]; show a.length + b.length ≤ _; omega), ofN_cat ha hb]

def digsF : Nat → Nat → List Nat
  | 0, v => [48 + v]
  | k + 1, v => match Nat.blt v 10 with
    | true => [48 + v]
    | false => digsF k (v / 10) ++ [48 + v % 10]
def Digs (l : List Nat) : Prop := ∀ c ∈ l, 48 ≤ c ∧ c ≤ 57
theorem Digs.bd {l : List Nat} (h : Digs l) : ∀ c ∈ l, c < 256 := fun c hc => by have := h c hc; omega
theorem valD_app : ∀ (l m : List Nat) (a : Nat), valD a (l ++ m) = valD (valD a l) m
  | [], _, _ => rfl
  | c :: l, m, a => valD_app l m (10 * a + (c - 48))
theorem dval_snoc (l : List Nat) (c : Nat) : valD 0 (l ++ [c]) = 10 * valD 0 l + (c - 48) := by
  rw [valD_app]; rfl
theorem digsF_ok : ∀ (k v : Nat), v < 10 ^ (k + 1) → Digs (digsF k v) ∧ valD 0 (digsF k v) = v ∧ 0 < (digsF k v).length ∧ (digsF k v).length ≤ k + 1 ∧ (v < 10 → (digsF k v).length = 1) ∧ (0 < v → (digsF k v).getD 0 0 ≠ 48)
  | 0, v, h => by
    have h : v < 10 := by simpa using h
    refine ⟨?_, ?_, by simp [digsF], by simp [digsF], fun _ => rfl, fun hv => by simp [digsF]; omega⟩
    · intro c hc
      simp [digsF] at hc; omega
    · show 10 * 0 + (48 + v - 48) = v
      omega
  | k + 1, v, h => by
    by_cases hv : v < 10
    · have e : digsF (k + 1) v = [48 + v] := by
        show (match Nat.blt v 10 with | true => _ | false => _) = _
        rw [show Nat.blt v 10 = true by simpa [Nat.blt_eq] using hv]
      rw [e]
      refine ⟨?_, ?_, by simp, by simp, fun _ => rfl, fun h => by simp; omega⟩
      · intro c hc
        simp at hc; omega
      · show 10 * 0 + (48 + v - 48) = v
        omega
    · have e : digsF (k + 1) v = digsF k (v / 10) ++ [48 + v % 10] := by
        show (match Nat.blt v 10 with | true => _ | false => _) = _
        rw [show Nat.blt v 10 = false by rw [Bool.eq_false_iff]; simpa [Nat.blt_eq] using hv]
      have hk : v / 10 < 10 ^ (k + 1) := by
        rw [Nat.div_lt_iff_lt_mul (by decide)]
        rw [Nat.pow_succ] at h; exact h
      obtain ⟨h1, h2, h3, h4, h5, h6⟩ := digsF_ok k (v / 10) hk
      rw [e]
      refine ⟨?_, ?_, by simp, by simp; omega, fun h => absurd h hv, fun _ => ?_⟩
      · intro c hc
        rcases List.mem_append.1 hc with hc | hc
        · exact h1 c hc
        · simp at hc; omega
      · rw [dval_snoc, h2]; omega
      · have h7 := h6 (by omega)
        cases hd : digsF k (v / 10) with
        | nil => rw [hd] at h3; simp at h3
        | cons c l => rw [hd] at h7; exact h7
def SpDigits (k : Nat) (F : List V → H → Ans) : Prop := ∀ (σ : H) (v : Nat), Tidy σ → v < 10 ^ (k + 1) → v ≤ 18446744073709551615 →
  ∃ σ', F [.int .u64 (Int.ofNat v)] σ = some (.str (ofN (digsF k v)), σ') ∧ Fr Nowhere σ σ'
theorem bytes_one {m : Nat} (h : m < 256) : BS.ofList [UInt8.ofNat (Int.ofNat m).toNat] = ofN [m] :=
  (ofN_eq (l := [m]) (fun c hc => by simp at hc; omega)).symm
theorem digits_small {k : Nat} (E : List (Nat × Blk)) (D : Den) (W : DrawFn) (N : Nat) (σ : H) (v : Nat) (ht : Tidy σ) (hv : v < 10) : ∃ σ', F8 E D W N [.int .u64 (Int.ofNat v)] σ = some (.str (ofN (digsF k v)), σ') ∧ Fr Nowhere σ σ' := by
  refine ⟨newB σ (.cells [.int .u8 (Int.ofNat (48 + v))]), ?_, Fr.new ht _⟩
  have e : digsF k v = [48 + v] := by
    cases k with
    | zero => rfl
    | succ k =>
      show (match Nat.blt v 10 with | true => _ | false => _) = _
      rw [show Nat.blt v 10 = true by simpa [Nat.blt_eq] using hv]
  have h1 : wrapF .u8 (addF .u64 (Int.ofNat 48) (Int.ofNat v)) = Int.ofNat (48 + v) := by
    have : addF .u64 (Int.ofNat 48) (Int.ofNat v) = Int.ofNat (48 + v) := wrapF_nat (k := .u64) (m := 48 + v) (show _ ≤ 18446744073709551615 by omega)
    rw [this]
    exact wrapF_nat (k := .u8) (show _ ≤ 255 by omega)
  show T8_0 E D W (Int.ofNat v) σ = _
  simp only [T8_0, ltF_nat, h1]
  rw [decide_eq_true hv, condK_true]
  have ha : Atc (newB σ (.cells [.int .u8 (Int.ofNat (48 + v))])) σ.next [.int .u8 (Int.ofNat (48 + v))] := Atc_newB _
  rw [toStrK_sl, srcK_ex ha (by simp)]
  show some (V.str (BS.ofList [UInt8.ofNat (Int.ofNat (48 + v)).toNat]), _) = _
  rw [bytes_one (by omega), e]
theorem digits0_F (E : List (Nat × Blk)) (D : Den) (W : DrawFn) (N : Nat) : SpDigits 0 (F8 E D W N) := fun σ v ht hv _ => digits_small E D W N σ v ht (by simpa using hv)
theorem digits_F {E : List (Nat × Blk)} {D : Den} {N k : Nat} (h : SpDigits k (D 8)) (hk : k ≤ 30) : SpDigits (k + 1) (F8 E D (drawW E D) N) := by
  intro σ v ht hv hv2
  by_cases hs : v < 10
  · exact digits_small E D _ N σ v ht hs
  have hk1 : v / 10 < 10 ^ (k + 1) := by
    rw [Nat.div_lt_iff_lt_mul (by decide)]
    rw [Nat.pow_succ] at hv; exact hv
  obtain ⟨σ1, g1, g2⟩ := h ⟨σ.next + 11, σ.bl⟩ (v / 10) (ht.wide 11) hk1 (by omega)
  have hgap := g2.gap ht (fun b hb => hb.elim)
  obtain ⟨d1, d2, d3, d4, _⟩ := digsF_ok k (v / 10) hk1
  have hle : σ.next + 11 ≤ σ1.next := g2.le
  let c : Blk := .cells [.int .u8 (Int.ofNat (48 + v % 10))]
  have e : digsF (k + 1) v = digsF k (v / 10) ++ [48 + v % 10] := by
    show (match Nat.blt v 10 with | true => _ | false => _) = _
    rw [show Nat.blt v 10 = false by rw [Bool.eq_false_iff]; simpa [Nat.blt_eq] using hs]
  have hquo : binV .quo .none (.int .u64 (Int.ofNat v)) (.int .u64 (Int.ofNat 10)) = some (.int .u64 (Int.ofNat (v / 10))) := by
    show some (V.int .u64 (IntKind.wrap .u64 (Int.ofNat (v / 10)))) = _
    rw [← wrapF_eq, wrapF_nat (k := .u64) (show v / 10 ≤ 18446744073709551615 by omega)]
  have hrem : binV .rem .none (.int .u64 (Int.ofNat v)) (.int .u64 (Int.ofNat 10)) = some (.int .u64 (Int.ofNat (v % 10))) := rfl
  have hadd : binV .add .none (.int .u64 (Int.ofNat 48)) (.int .u64 (Int.ofNat (v % 10))) = some (.int .u64 (Int.ofNat (48 + v % 10))) := by
    show some (V.int .u64 (IntKind.wrap .u64 (Int.ofNat (48 + v % 10)))) = _
    rw [← wrapF_eq, wrapF_nat (k := .u64) (show 48 + v % 10 ≤ 18446744073709551615 by omega)]
  have hconv : aopP (.conv (.toInt .u8) (.tmp 15)) [(15, .int .u64 (Int.ofNat (48 + v % 10)))] = some (.int .u8 (Int.ofNat (48 + v % 10))) := by
    show some (V.int .u8 (IntKind.wrap .u8 (Int.ofNat (48 + v % 10)))) = _
    rw [← wrapF_eq, wrapF_nat (k := .u8) (show 48 + v % 10 ≤ 255 by omega)]
  have hcall : den1 E D (.call 8 [.tmp 11]) [(11, .int .u64 (Int.ofNat (v / 10)))] ⟨σ.next + 11, σ.bl⟩ = some (.str (ofN (digsF k (v / 10))), σ1) := g1
  have hstr : ∀ (l : List (Nat × Blk)) (nx : Nat), aopL E (.conv .toStr (.tmp 17)) [(17, .sl (σ.next + 7) 0 1 (.ex 1))] ⟨nx, hideB σ.next 11 (visK 248 128) ((σ.next + 7, c) :: l)⟩ = some (.str (ofN [48 + v % 10])) := fun l nx => by
    have hl : Go.Og.look (hideB σ.next 11 (visK 248 128) ((σ.next + 7, c) :: l)) (σ.next + 7) = some c := by
      rw [look_hide_kept (by decide), look_cons_eq]
    show (match (rdN E ⟨nx, hideB σ.next 11 (visK 248 128) ((σ.next + 7, c) :: l)⟩ (σ.next + 7) 0 (1 * 1)).map (fun l => (1, l)) with
      | some (_, l) => (match bytesOf l with | some s => some (V.str (BS.ofList s)) | none => none)
      | none => none) = _
    unfold rdN rd
    simp only [hl]
    show some (V.str (BS.ofList [UInt8.ofNat (Int.ofNat (48 + v % 10)).toNat])) = _
    rw [bytes_one (by omega)]
  have hcat : binV .add .none (.str (ofN (digsF k (v / 10)))) (.str (ofN [48 + v % 10])) = some (.str (ofN (digsF (k + 1) v))) := by
    show (match Nat.ble (Nat.add (ofN (digsF k (v / 10))).len (ofN [48 + v % 10]).len) 1000000000000 with | true => some (V.str ((ofN (digsF k (v / 10))).cat (ofN [48 + v % 10]))) | false => none) = _
    rw [show Nat.ble (Nat.add (ofN (digsF k (v / 10))).len (ofN [48 + v % 10]).len) 1000000000000 = true from ble_of (by rw [ofN_len, ofN_len]; show (digsF k (v / 10)).length + 1 ≤ _; omega)]
    simp only []
    rw [ofN_cat d1.bd (fun c hc => by simp at hc; omega), e]
  have h0 := ht.gap 11
  have hdr : drawW E D G8_0 H8_0 [(0, .int .u64 (Int.ofNat v))] σ = some ((2, .str (ofN (digsF (k + 1) v))) :: [(19, .str (ofN (digsF (k + 1) v))), (18, .str (ofN [48 + v % 10])), (17, .sl (σ.next + 7) 0 1 (.ex 1)), (16, .int .u8 (Int.ofNat (48 + v % 10))), (15, .int .u64 (Int.ofNat (48 + v % 10))), (14, .int .u64 (Int.ofNat (v % 10))), (13, .int .u64 (Int.ofNat v)), (12, .str (ofN (digsF k (v / 10)))), (11, .int .u64 (Int.ofNat (v / 10))), (10, .int .u64 (Int.ofNat v)), (0, .int .u64 (Int.ofNat v))],
      ⟨σ1.next, hideB σ.next 11 (fun k => (128 : Nat).testBit k) ((σ.next + 7, c) :: σ1.bl)⟩) := by
    refine drawW_of (s := ⟨_, σ1.next, [(σ.next + 7, c) :: σ1.bl, (σ.next + 7, c) :: σ.bl], [2], 128, [(8, .conv .toStr (.tmp 17), [(17, .sl (σ.next + 7) 0 1 (.ex 1))], .str (ofN [48 + v % 10]))]⟩) ?_ ?_ rfl
    · refine (dsteps_p rfl rfl rfl).trans ?_
      refine (dsteps_p (v := .int .u64 (Int.ofNat (v / 10))) rfl rfl ?_).trans ?_
      · exact hquo
      refine (dsteps_k (σ' := σ1) (v := .str (ofN (digsF k (v / 10)))) rfl rfl rfl ?_).trans ?_
      · show den1 E D (.call 8 [.tmp 11]) [(11, .int .u64 (Int.ofNat (v / 10)))] ⟨σ.next + 11, hideB σ.next 11 (visK 3 0) σ.bl⟩ = _
        rw [hideB_id h0]; exact hcall
      show dsteps E D σ.next 11 3 _ _ ⟨_, σ1.next, [keepB σ.next 11 (visK 3 0) σ.bl ++ σ1.bl, σ.bl], [2], 0, []⟩ = _
      rw [keepB_id h0]
      refine (dsteps_p rfl rfl rfl).trans ?_
      refine (dsteps_p (v := .int .u64 (Int.ofNat (v % 10))) rfl rfl ?_).trans ?_
      · exact hrem
      refine (dsteps_p (v := .int .u64 (Int.ofNat (48 + v % 10))) rfl rfl ?_).trans ?_
      · exact hadd
      refine (dsteps_p (v := .int .u8 (Int.ofNat (48 + v % 10))) rfl rfl ?_).trans ?_
      · exact hconv
      refine (dsteps_a' (v := .sl (σ.next + 7) 0 1 (.ex 1)) (b := c) (id := σ.next + 7) (am' := 128) rfl rfl rfl (show (0 : Nat) ||| 2 ^ 7 = 128 from by decide) rfl).trans ?_
      show dsteps E D σ.next 11 8 _ _ ⟨_, σ1.next, [(σ.next + 7, c) :: σ1.bl, (σ.next + 7, c) :: σ.bl], [2], 128, []⟩ = _
      refine (dsteps_l (v := .str (ofN [48 + v % 10])) rfl rfl rfl ?_).trans ?_
      · exact hstr σ1.bl σ1.next
      refine (dsteps_p (v := .str (ofN (digsF (k + 1) v))) rfl rfl ?_).trans ?_
      · exact hcat
      refine (dsteps_p rfl rfl rfl).trans ?_
      exact dsteps_nil
    · simp only [List.all_cons, List.all_nil, Bool.and_true]
      have hs1 := hstr σ1.bl 0
      have hs0 := hstr σ.bl 0
      show (((!legal H8_0 8 [2] []) || (match aopL E (.conv .toStr (.tmp 17)) [(17, .sl (σ.next + 7) 0 1 (.ex 1))] ⟨0, hideB σ.next 11 (visK 248 128) ((σ.next + 7, c) :: σ1.bl)⟩ with | some u => V.beq u (.str (ofN [48 + v % 10])) | none => false)) &&
        (((!legal H8_0 8 [] [2]) || (match aopL E (.conv .toStr (.tmp 17)) [(17, .sl (σ.next + 7) 0 1 (.ex 1))] ⟨0, hideB σ.next 11 (visK 248 128) ((σ.next + 7, c) :: σ.bl)⟩ with | some u => V.beq u (.str (ofN [48 + v % 10])) | none => false)) && true)) = true
      rw [hs1, hs0]
      have hb : V.beq (.str (ofN [48 + v % 10])) (.str (ofN [48 + v % 10])) = true := by
        show decide _ = true
        exact decide_eq_true rfl
      simp only [hb, Bool.or_true, Bool.and_true]
  refine ⟨⟨σ1.next, hideB σ.next 11 (fun k => (128 : Nat).testBit k) ((σ.next + 7, c) :: σ1.bl)⟩, ?_, ?_⟩
  · show T8_0 E D (drawW E D) (Int.ofNat v) σ = _
    simp only [T8_0, ltF_nat]
    rw [decide_eq_false hs, condK_false, hdr]
    rfl
  · refine ⟨fun b hb => ?_, show σ.next ≤ σ1.next by omega, fun b hb hn => ?_⟩
    · have hb' : σ1.next ≤ b := hb
      show lookF (hideB _ _ _ _) b = none
      rw [lookF_eq, look_hide_new (by omega), look_cons_ne (by omega), ← lookF_eq]
      exact g2.tidy b hb'
    · show lookF (hideB _ _ _ _) b = _
      rw [lookF_eq, look_hide_old hb, look_cons_ne (by omega), ← lookF_eq]
      exact g2.same b (show b < σ.next + 11 by omega) hn
def numC (v : Int) : List Nat := match v with
  | .ofNat m => digsF 19 m
  | .negSucc m => 45 :: digsF 19 (m + 1)
def In64 (v : Int) : Prop := -9223372036854775808 ≤ v ∧ v ≤ 9223372036854775807
def SpNumber (F : List V → H → Ans) : Prop := ∀ (σ : H) (v : Int), Tidy σ → In64 v → ∃ σ', F [.int .i64 v] σ = some (.str (ofN (numC v)), σ') ∧ Fr Nowhere σ σ'
theorem number_F {E : List (Nat × Blk)} {D : Den} {W : DrawFn} {N : Nat} (h : SpDigits 19 (D 8)) : SpNumber (F4 E D W N) := by
  intro σ v ht hv
  obtain ⟨h1, h2⟩ := hv
  show ∃ σ', T4_0 E D W v σ = _ ∧ _
  unfold T4_0
  cases v with
  | ofNat m =>
    simp only [Int.ofNat_eq_natCast] at h1 h2
    obtain ⟨σ', g1, g2⟩ := h σ m ht (by show m < 100000000000000000000; omega) (by omega)
    refine ⟨σ', ?_, g2⟩
    rw [show ltF (Int.ofNat m) (Int.ofNat 0) = false by rw [ltF_nat]; exact decide_eq_false (by omega), condK_false, wrapF_nat (k := .u64) (show m ≤ 18446744073709551615 by omega), g1]
    rfl
  | negSucc m =>
    obtain ⟨d1, d2, d3, d4, _⟩ := digsF_ok 19 (m + 1) (by show m + 1 < 100000000000000000000; omega)
    obtain ⟨σ', g1, g2⟩ := h σ (m + 1) ht (by show m + 1 < 100000000000000000000; omega) (by omega)
    refine ⟨σ', ?_, g2⟩
    have e1 : addF .i64 (Int.negSucc m) (Int.ofNat 1) = -(m : Int) := by
      show wrapF .i64 (Int.negSucc m + ((1 : Nat) : Int)) = _
      rw [wrap64 (by omega) (by omega)]; omega
    have e2 : negF .i64 (-(m : Int)) = Int.ofNat m := by
      show wrapF .i64 (0 - (-(m : Int))) = _
      rw [wrap64 (by omega) (by omega)]
      simp only [Int.ofNat_eq_natCast]; omega
    have e3 : addF .u64 (Int.ofNat m) (Int.ofNat 1) = Int.ofNat (m + 1) := wrapF_nat (k := .u64) (m := m + 1) (show _ ≤ 18446744073709551615 by omega)
    rw [show ltF (Int.negSucc m) (Int.ofNat 0) = true from rfl, condK_true, e1, e2, wrapF_nat (k := .u64) (show m ≤ 18446744073709551615 by omega), e3, g1]
    simp only [callK_some_, rtStr_str]
    rw [show (BS.mk 1 45) = ofN [45] from by decide +kernel, catK_ofN (fun c hc => by simp at hc; omega) d1.bd (by simp; omega)]
    rfl
theorem digB_iff (c : Nat) : digB c = true ↔ 48 ≤ c ∧ c ≤ 57 := by
  unfold digB
  rw [Bool.and_eq_true, decide_eq_true_eq, decide_eq_true_eq]
theorem digsF_len : ∀ (k v p : Nat), v < 10 ^ (p + 1) → v < 10 ^ (k + 1) → (digsF k v).length ≤ p + 1
  | 0, v, p, h, _ => by show 1 ≤ p + 1; omega
  | k + 1, v, p, h, hk => by
    by_cases hv : v < 10
    · rw [(digsF_ok (k + 1) v hk).2.2.2.2.1 hv]; omega
    · have e : digsF (k + 1) v = digsF k (v / 10) ++ [48 + v % 10] := by
        show (match Nat.blt v 10 with | true => _ | false => _) = _
        rw [show Nat.blt v 10 = false by rw [Bool.eq_false_iff]; simpa [Nat.blt_eq] using hv]
      obtain ⟨p, rfl⟩ : ∃ j, p = j + 1 := ⟨p - 1, by
        rcases p with _ | p
        · simp at h; omega
        · rfl⟩
      have := digsF_len k (v / 10) p (by rw [Nat.div_lt_iff_lt_mul (by decide)]; rw [Nat.pow_succ] at h; exact h) (by rw [Nat.div_lt_iff_lt_mul (by decide)]; rw [Nat.pow_succ] at hk; exact hk)
      rw [e, List.length_append, List.length_cons, List.length_nil]; omega
/-- A number's text is read as that number. -/
theorem numC_ok {v : Int} (h : In64 v) {r : List Nat} (hd : digB (r.headD 0) = false) (hl : letB (r.headD 0) = false) : ∃ m ds, numC v = numT m ds ∧ NumOk m ds r ∧ numI (numC v) = v := by
  obtain ⟨h1, h2⟩ := h
  cases v with
  | ofNat m =>
    simp only [Int.ofNat_eq_natCast] at h1 h2
    obtain ⟨d1, d2, d3, d4, d5, d6⟩ := digsF_ok 19 m (by show m < 100000000000000000000; omega)
    have hn := digsF_len 19 m 18 (by show m < 10000000000000000000; omega) (by show m < 100000000000000000000; omega)
    refine ⟨false, digsF 19 m, rfl, ⟨fun d h => (digB_iff d).2 (d1 d h), d3, hn, ?_, (fun e => by cases e), hd, hl, by omega, fun _ => by omega⟩, ?_⟩
    · rcases Nat.eq_zero_or_pos m with h0 | h0
      · exact .inl (d5 (by omega))
      · have := d6 h0
        cases hds : digsF 19 m with
        | nil => rw [hds] at d3; simp at d3
        | cons c l => rw [hds] at this; exact .inr this
    · show numI (digsF 19 m) = _
      cases hds : digsF 19 m with
      | nil => rw [hds] at d3; simp at d3
      | cons c l =>
        have hc := d1 c (by rw [hds]; simp)
        rw [hds] at d2
        show (match decide (c = 45) with
          | true => -Int.ofNat (valD 0 l)
          | false => Int.ofNat (valD 0 (c :: l))) = _
        rw [decide_eq_false (by omega), d2]
  | negSucc m =>
    obtain ⟨d1, d2, d3, d4, d5, d6⟩ := digsF_ok 19 (m + 1) (by show m + 1 < 100000000000000000000; omega)
    have hn := digsF_len 19 (m + 1) 18 (by show m + 1 < 10000000000000000000; omega) (by show m + 1 < 100000000000000000000; omega)
    have h7 : (digsF 19 (m + 1)).headD 0 ≠ 48 := by
      have := d6 (by omega)
      cases hds : digsF 19 (m + 1) with
      | nil => simp
      | cons c l => rw [hds] at this; exact this
    refine ⟨true, digsF 19 (m + 1), rfl, ⟨fun d h => (digB_iff d).2 (d1 d h), d3, hn, .inr h7, fun _ => h7, hd, hl, by omega, fun e => by cases e⟩, ?_⟩
    show -Int.ofNat (valD 0 (digsF 19 (m + 1))) = _
    rw [d2]; rfl
end
end Go.Proofs.YtabnjnkmdknhaaaGreatDoor
set_option linter.all false
set_option maxRecDepth 100000
namespace Go.Proofs.YtabnjnkmdknhaaaGreatDoor
open Go Go.Og
noncomputable section
theorem sg_skip {t : BS} {l : List BS} {c : Nat} {r : List Nat} (h : t.nats.head? ≠ some c) (h0 : t.nats ≠ []) : sgIn (t :: l) (c :: r) = sgIn l (c :: r) := by
  rw [sgIn_cons]
  have : decide ((c :: r).take t.len = t.nats) = false := decide_eq_false fun e => by
    cases hl : t.len with
    | zero => rw [hl] at e; exact h0 e.symm
    | succ n => rw [hl] at e; rw [← e] at h; exact h rfl
  rw [this, Bool.and_false]
theorem sg_skip3 {t : BS} {l : List BS} {a b c : Nat} {r : List Nat} (hn : t.nats = [46, 46, 46]) (hl : t.len = 3) (hc : c ≠ 46) : sgIn (t :: l) (a :: b :: c :: r) = sgIn l (a :: b :: c :: r) := by
  rw [sgIn_cons]
  have : decide ((a :: b :: c :: r).take t.len = t.nats) = false := decide_eq_false fun e => by
    rw [hl, hn] at e
    have e : [a, b, c] = [46, 46, 46] := e
    injection e with _ e
    injection e with _ e
    injection e with e _
    exact hc e
  rw [this, Bool.and_false]
theorem sg_hit {t : BS} {l : List BS} {r s : List Nat} (hn : r = t.nats ++ s) : sgIn (t :: l) r = t.len := by
  rw [sgIn_cons]
  have hl := BS.length_nats t
  rw [decide_eq_true (by rw [hn, List.length_append]; omega), decide_eq_true (by rw [hn, ← hl, List.take_left])]
  rfl
theorem sg_asg (r : List Nat) : sgIn signsV (58 :: 58 :: 61 :: r) = 3 := sg_hit (t := BS.mk 3 4012602) (s := r) (by rw [show (BS.mk 3 4012602).nats = [58, 58, 61] from by decide +kernel]; rfl)
theorem sg_lp (r : List Nat) : sgIn signsV (40 :: r) = 1 := by
  unfold signsV
  rw [sg_skip (by decide +kernel) (by decide +kernel)]
  rw [sg_skip (by decide +kernel) (by decide +kernel)]
  rw [sg_skip (by decide +kernel) (by decide +kernel)]
  rw [sg_skip (by decide +kernel) (by decide +kernel)]
  rw [sg_skip (by decide +kernel) (by decide +kernel)]
  rw [sg_skip (by decide +kernel) (by decide +kernel)]
  rw [sg_skip (by decide +kernel) (by decide +kernel)]
  rw [sg_skip (by decide +kernel) (by decide +kernel)]
  rw [sg_skip (by decide +kernel) (by decide +kernel)]
  exact sg_hit (t := BS.mk 1 40) (s := r) (by rw [show (BS.mk 1 40).nats = [40] from by decide +kernel]; rfl)
theorem sg_rp (r : List Nat) : sgIn signsV (41 :: r) = 1 := by
  unfold signsV
  rw [sg_skip (by decide +kernel) (by decide +kernel)]
  rw [sg_skip (by decide +kernel) (by decide +kernel)]
  rw [sg_skip (by decide +kernel) (by decide +kernel)]
  rw [sg_skip (by decide +kernel) (by decide +kernel)]
  rw [sg_skip (by decide +kernel) (by decide +kernel)]
  rw [sg_skip (by decide +kernel) (by decide +kernel)]
  rw [sg_skip (by decide +kernel) (by decide +kernel)]
  rw [sg_skip (by decide +kernel) (by decide +kernel)]
  rw [sg_skip (by decide +kernel) (by decide +kernel)]
  rw [sg_skip (by decide +kernel) (by decide +kernel)]
  exact sg_hit (t := BS.mk 1 41) (s := r) (by rw [show (BS.mk 1 41).nats = [41] from by decide +kernel]; rfl)
theorem sg_dd (c : Nat) (r : List Nat) (hc : c ≠ 46) : sgIn signsV (46 :: 46 :: c :: r) = 2 := by
  unfold signsV
  rw [sg_skip (by decide +kernel) (by decide +kernel), sg_skip3 (by decide +kernel) rfl hc]
  exact sg_hit (t := BS.mk 2 11822) (s := c :: r) (by rw [show (BS.mk 2 11822).nats = [46, 46] from by decide +kernel]; rfl)
theorem wht_no {N c : Nat} {r : List Nat} (h1 : isWs c = false) (h2 : dash c r = false) : wht (N + 1) (c :: r) = c :: r := by
  unfold wht
  rw [h1, h2]
theorem wht_ws {N c : Nat} {r : List Nat} (h1 : isWs c = false) (h2 : dash c r = false) : wht (N + 2) (32 :: c :: r) = c :: r :=
  (rfl : wht (N + 2) (32 :: c :: r) = wht (N + 1) (c :: r)).trans (wht_no h1 h2)
theorem tk_sign {c n : Nat} {r w r' : List Nat} (h : sgIn signsV (c :: r) = n) (h0 : 0 < n) (hw : (c :: r).take n = w) (hr : (c :: r).drop n = r') (h1 : letB c = false) (h2 : digB c = false) (h3 : c ≠ 45) (h4 : c ≠ 39) (h5 : c ≠ 34) : Tk (c :: r) 6 w r' := by
  subst h; subst hw; subst hr
  exact .sign h1 h2 (fun e => absurd e h3) h4 h5 h0
theorem tk_name {c n k : Nat} {r w r' : List Nat} (h : nmL (c :: r) = n) (hw : (c :: r).take n = w) (hr : (c :: r).drop n = r') (h1 : letB c = true) (h2 : nmBad w = false) (hk : k = (if wdB (ofN w) = true then 5 else if c ≤ 90 then 1 else 2)) : Tk (c :: r) k w r' := by
  subst h; subst hw; subst hr
  exact .name h1 h2 hk
theorem numT_head {m : Bool} {ds r : List Nat} (h : NumOk m ds r) : ∃ c l, numT m ds = c :: l ∧ isWs c = false ∧ c ≠ 46 ∧ (∀ t, dash c (l ++ t) = false) := by
  have h1 := h.n1
  cases hd : ds with
  | nil => rw [hd] at h1; simp at h1
  | cons d l =>
    have hdg := (digB_iff d).1 (h.dig d (by rw [hd]; simp))
    cases m with
    | false =>
      refine ⟨d, l, rfl, ?_, by omega, fun t => ?_⟩
      · unfold isWs
        rw [decide_eq_false (by omega), decide_eq_false (by omega), decide_eq_false (by omega), decide_eq_false (by omega)]; rfl
      · unfold dash
        rw [decide_eq_false (by omega)]; rfl
    | true =>
      refine ⟨45, d :: l, rfl, rfl, by decide, fun t => ?_⟩
      show (true && decide (d = 45)) = false
      rw [decide_eq_false (by omega)]; rfl
end
end Go.Proofs.YtabnjnkmdknhaaaGreatDoor
set_option linter.all false
set_option maxRecDepth 100000
namespace Go.Proofs.YtabnjnkmdknhaaaGreatDoor
open Go Go.Og
noncomputable section
/-! ### digits (no program) -/
/-- So many digits of a number. -/
def digW : Nat → Nat → List Nat
  | 0, _ => []
  | n + 1, u => digW n (u / 10) ++ [48 + u % 10]
theorem digsF_step {k v : Nat} (h : ¬ v < 10) : digsF (k + 1) v = digsF k (v / 10) ++ [48 + v % 10] := by
  show (match Nat.blt v 10 with | true => _ | false => _) = _
  rw [show Nat.blt v 10 = false by rw [Bool.eq_false_iff]; simpa [Nat.blt_eq] using h]
theorem digsF_one {k v : Nat} (h : v < 10) : digsF k v = [48 + v] := by
  cases k with
  | zero => rfl
  | succ k =>
    show (match Nat.blt v 10 with | true => _ | false => _) = _
    rw [show Nat.blt v 10 = true by simpa [Nat.blt_eq] using h]
theorem pow_div {k v : Nat} (h : v < 10 ^ (k + 2)) : v / 10 < 10 ^ (k + 1) := by
  rw [Nat.div_lt_iff_lt_mul (by decide)]
  rw [Nat.pow_succ] at h; exact h
theorem digsF_W : ∀ k v : Nat, v < 10 ^ (k + 1) → digsF k v = digW (digsF k v).length v
  | 0, v, h => by
    have h : v < 10 := by simpa using h
    show [48 + v] = [48 + v % 10]
    rw [Nat.mod_eq_of_lt h]
  | k + 1, v, h => by
    by_cases hv : v < 10
    · rw [digsF_one hv]
      show [48 + v] = [48 + v % 10]
      rw [Nat.mod_eq_of_lt hv]
    · rw [digsF_step hv, List.length_append]
      show _ = digW ((digsF k (v / 10)).length + 1) v
      rw [digW, ← digsF_W k (v / 10) (pow_div h)]
theorem digsF_hi : ∀ k v : Nat, v < 10 ^ (k + 1) → v < 10 ^ (digsF k v).length
  | 0, v, h => h
  | k + 1, v, h => by
    by_cases hv : v < 10
    · rw [digsF_one hv]; exact hv
    · have := digsF_hi k (v / 10) (pow_div h)
      rw [digsF_step hv, List.length_append]
      show v < 10 ^ ((digsF k (v / 10)).length + 1)
      rw [Nat.pow_succ]; omega
theorem digsF_lo : ∀ k v : Nat, v < 10 ^ (k + 1) → 0 < v → 10 ^ ((digsF k v).length - 1) ≤ v
  | 0, v, h, h0 => h0
  | k + 1, v, h, h0 => by
    by_cases hv : v < 10
    · rw [digsF_one hv]; exact h0
    · have := digsF_lo k (v / 10) (pow_div h) (by omega)
      have hp := (digsF_ok k (v / 10) (pow_div h)).2.2.1
      rw [digsF_step hv, List.length_append]
      show 10 ^ ((digsF k (v / 10)).length + 1 - 1) ≤ v
      obtain ⟨q, hq⟩ : ∃ q, (digsF k (v / 10)).length = q + 1 := ⟨(digsF k (v / 10)).length - 1, by omega⟩
      rw [hq] at this ⊢
      rw [Nat.add_sub_cancel] at this ⊢
      rw [Nat.pow_succ]; omega
theorem digsF_num {k v a : Nat} (h : v < 10 ^ (k + 1)) (h1 : 10 ^ a ≤ v) (h2 : v < 10 ^ (a + 1)) : (digsF k v).length = a + 1 := by
  have hv : 0 < v := Nat.lt_of_lt_of_le (Nat.pow_pos (by decide)) h1
  have e1 := digsF_hi k v h
  have e2 := digsF_lo k v h hv
  rcases Nat.lt_trichotomy (digsF k v).length (a + 1) with hl | hl | hl
  · have := Nat.pow_le_pow_right (n := 10) (by decide) (show (digsF k v).length ≤ a by omega)
    omega
  · exact hl
  · have := Nat.pow_le_pow_right (n := 10) (by decide) (show a + 1 ≤ (digsF k v).length - 1 by omega)
    omega
/-! ### numbers of the program's -/
theorem tm (a b : Nat) : Int.tmod (Int.ofNat a) (Int.ofNat b) = Int.ofNat (a % b) := rfl
theorem quoN {k : IntKind} {a b : Nat} (h : a / b ≤ maxN k) : quoF k (Int.ofNat a) (Int.ofNat b) = Int.ofNat (a / b) := wrapF_nat (k := k) (m := a / b) h
theorem mulN {k : IntKind} {a b : Nat} (h : a * b ≤ maxN k) : mulF k (Int.ofNat a) (Int.ofNat b) = Int.ofNat (a * b) := wrapF_nat (k := k) (m := a * b) h
theorem addN {k : IntKind} {a b : Nat} (h : a + b ≤ maxN k) : addF k (Int.ofNat a) (Int.ofNat b) = Int.ofNat (a + b) := wrapF_nat (k := k) (m := a + b) h
/-! ### how many bits -/
def l8tab : BS := BS.mk 256 1013866857139168856493015739252390649739422828853819106890363778118420553376247557433637691341895324351018602695588957474325319502760499485336098898398377509666851054660423406800006203933793007272033180812049178612605246075062580585469430410618860250057463399279570354286669047577758927328864388992123306212451509403152394148136105363817402562688186708175358218852349079190158732807302672745370040257219644697201681238697346923541678507645485296520536209706771857694240900605172937619415410180424934769249448772944216470541052485265558808433676546390051204254346932932316488017972311616136051587427851453983453479168
theorem l8_bits : ∀ n : Fin 256, 0 < n.val → 1 ≤ l8tab.get n.val ∧ l8tab.get n.val ≤ 8 ∧ 2 ^ (l8tab.get n.val - 1) ≤ n.val ∧ n.val < 2 ^ l8tab.get n.val := by decide +kernel
theorem idx_tab {m : Nat} (h : m < 256) (κ : Int → Ans) : idxStrX l8tab (Int.ofNat m) κ = κ (Int.ofNat (l8tab.get m)) := by
  show chk (Nat.blt m 256) _ = _
  exact chk_true (by simpa [Nat.blt_eq] using h)
def SpBits (F : List V → H → Ans) : Prop := ∀ (σ : H) (n : Nat), 0 < n → n < 2 ^ 64 → ∃ L, F [.int .u64 (Int.ofNat n)] σ = some (.int .i64 (Int.ofNat L), σ) ∧ 1 ≤ L ∧ L ≤ 64 ∧ 2 ^ (L - 1) ≤ n ∧ n < 2 ^ L
section
variable {E : List (Nat × Blk)} {D : Den} {W : DrawFn} {N : Nat}
theorem half {n x b c : Nat} (hx : x = n / 2 ^ b) : x / 2 ^ c = n / 2 ^ (b + c) := by rw [hx, Nat.div_div_eq_div_mul, Nat.pow_add]
theorem bits_0 (n : Nat) (σ : H) (h0 : 0 < n) (h : n < 2 ^ 64) : ∃ x b, (∀ K, T116_0 E D W K (Int.ofNat n) σ = K (Int.ofNat x) (Int.ofNat b) σ) ∧ x = n / 2 ^ b ∧ 0 < x ∧ x < 2 ^ 32 ∧ b ≤ 32 := by
  cases d : decide (4294967296 ≤ n) with
  | true =>
    have := of_decide_eq_true d
    refine ⟨n / 2 ^ 32, 32, fun K => ?_, rfl, Nat.div_pos this (by decide), by rw [Nat.div_lt_iff_lt_mul (by decide)]; omega, Nat.le_refl _⟩
    show condK (leF (Int.ofNat 4294967296) (Int.ofNat n)) (K (shrF .u64 (Int.ofNat n) 32) (Int.ofNat 32) σ) (K (Int.ofNat n) (Int.ofNat 0) σ) = _
    rw [leF_nat, d, condK_true]; rfl
  | false =>
    have := of_decide_eq_false d
    refine ⟨n, 0, fun K => ?_, by simp, h0, by omega, by decide⟩
    show condK (leF (Int.ofNat 4294967296) (Int.ofNat n)) (K (shrF .u64 (Int.ofNat n) 32) (Int.ofNat 32) σ) (K (Int.ofNat n) (Int.ofNat 0) σ) = _
    rw [leF_nat, d, condK_false]
theorem bits_1 (n x b : Nat) (σ : H) (hx : x = n / 2 ^ b) (h0 : 0 < x) (h : x < 2 ^ 32) (hb : b ≤ 32) : ∃ x' b', (∀ K, T116_1 E D W K (Int.ofNat x) (Int.ofNat b) σ = K (Int.ofNat x') (Int.ofNat b') σ) ∧ x' = n / 2 ^ b' ∧ 0 < x' ∧ x' < 2 ^ 16 ∧ b' ≤ 48 := by
  cases d : decide (65536 ≤ x) with
  | true =>
    have := of_decide_eq_true d
    refine ⟨x / 2 ^ 16, b + 16, fun K => ?_, half hx, Nat.div_pos this (by decide), by rw [Nat.div_lt_iff_lt_mul (by decide)]; omega, by omega⟩
    show condK (leF (Int.ofNat 65536) (Int.ofNat x)) (K (shrF .u64 (Int.ofNat x) 16) (addF .i64 (Int.ofNat b) (Int.ofNat 16)) σ) (K (Int.ofNat x) (Int.ofNat b) σ) = _
    rw [leF_nat, d, condK_true, addF_nat (by omega)]; rfl
  | false =>
    have := of_decide_eq_false d
    refine ⟨x, b, fun K => ?_, hx, h0, by omega, by omega⟩
    show condK (leF (Int.ofNat 65536) (Int.ofNat x)) (K (shrF .u64 (Int.ofNat x) 16) (addF .i64 (Int.ofNat b) (Int.ofNat 16)) σ) (K (Int.ofNat x) (Int.ofNat b) σ) = _
    rw [leF_nat, d, condK_false]
theorem bits_2 (n x b : Nat) (σ : H) (hx : x = n / 2 ^ b) (h0 : 0 < x) (h : x < 2 ^ 16) (hb : b ≤ 48) : ∃ x' b', (∀ K, T116_2 E D W K (Int.ofNat x) (Int.ofNat b) σ = K (Int.ofNat x') (Int.ofNat b') σ) ∧ x' = n / 2 ^ b' ∧ 0 < x' ∧ x' < 256 ∧ b' ≤ 56 := by
  cases d : decide (256 ≤ x) with
  | true =>
    have := of_decide_eq_true d
    refine ⟨x / 2 ^ 8, b + 8, fun K => ?_, half hx, Nat.div_pos this (by decide), by rw [Nat.div_lt_iff_lt_mul (by decide)]; omega, by omega⟩
    show condK (leF (Int.ofNat 256) (Int.ofNat x)) (K (shrF .u64 (Int.ofNat x) 8) (addF .i64 (Int.ofNat b) (Int.ofNat 8)) σ) (K (Int.ofNat x) (Int.ofNat b) σ) = _
    rw [leF_nat, d, condK_true, addF_nat (by omega)]; rfl
  | false =>
    have := of_decide_eq_false d
    refine ⟨x, b, fun K => ?_, hx, h0, by omega, by omega⟩
    show condK (leF (Int.ofNat 256) (Int.ofNat x)) (K (shrF .u64 (Int.ofNat x) 8) (addF .i64 (Int.ofNat b) (Int.ofNat 8)) σ) (K (Int.ofNat x) (Int.ofNat b) σ) = _
    rw [leF_nat, d, condK_false]
theorem bits_F : SpBits (F116 E D W N) := by
  intro σ n h0 h
  obtain ⟨x1, b1, g1, e1, p1, l1, m1⟩ := bits_0 (E := E) (D := D) (W := W) n σ h0 h
  obtain ⟨x2, b2, g2, e2, p2, l2, m2⟩ := bits_1 (E := E) (D := D) (W := W) n x1 b1 σ e1 p1 l1 m1
  obtain ⟨x3, b3, g3, e3, p3, l3, m3⟩ := bits_2 (E := E) (D := D) (W := W) n x2 b2 σ e2 p2 l2 m2
  obtain ⟨q1, q2, q3, q4⟩ := l8_bits ⟨x3, l3⟩ p3
  have q1 : 1 ≤ l8tab.get x3 := q1
  have q2 : l8tab.get x3 ≤ 8 := q2
  have q3 : 2 ^ (l8tab.get x3 - 1) ≤ x3 := q3
  have q4 : x3 < 2 ^ l8tab.get x3 := q4
  have w1 : wrapF .u8 (Int.ofNat x3) = Int.ofNat x3 := wrapF_nat (show x3 ≤ 255 by omega)
  have w2 : wrapF .i64 (Int.ofNat (l8tab.get x3)) = Int.ofNat (l8tab.get x3) := wrapF_nat (show l8tab.get x3 ≤ 9223372036854775807 by omega)
  have w3 : addF .i64 (Int.ofNat b3) (Int.ofNat (l8tab.get x3)) = Int.ofNat (b3 + l8tab.get x3) := addF_nat (by omega)
  refine ⟨b3 + l8tab.get x3, ?_, by omega, by omega, ?_, ?_⟩
  · show T116_0 E D W (T116_1 E D W (T116_2 E D W (T116_3 E D W))) (Int.ofNat n) σ = _
    rw [g1, g2, g3]
    show idxStrX l8tab (wrapF .u8 (Int.ofNat x3)) (fun x1 => some (.int .i64 (addF .i64 (Int.ofNat b3) (wrapF .i64 x1)), σ)) = _
    rw [w1, idx_tab l3, w2, w3]
  · rw [show b3 + l8tab.get x3 - 1 = b3 + (l8tab.get x3 - 1) by omega, Nat.pow_add]
    exact Nat.le_trans (Nat.mul_le_mul_left _ (Nat.le_trans q3 (Nat.le_of_eq e3))) (Nat.mul_div_le _ _)
  · rw [Nat.pow_add, Nat.mul_comm, ← Nat.div_lt_iff_lt_mul (Nat.pow_pos (by decide)), ← e3]
    exact q4
end
end
end Go.Proofs.YtabnjnkmdknhaaaGreatDoor
set_option linter.all false
set_option maxRecDepth 100000
namespace Go.Proofs.YtabnjnkmdknhaaaGreatDoor
open Go Go.Og
noncomputable section
theorem pow_tab : ∀ L : Fin 65, 1 ≤ L.val → (L.val * 78913 / 262144 = 0 ∨ 10 ^ (L.val * 78913 / 262144 - 1) ≤ 2 ^ (L.val - 1)) ∧ 2 ^ L.val ≤ 10 ^ (L.val * 78913 / 262144 + 1) ∧ L.val * 78913 / 262144 < 20 := by decide +kernel
/-- The table of powers lies among what arguments lead to. -/
def p10C : List V := (List.range 20).map fun k => .int .u64 (Int.ofNat (10 ^ k))
structure P10 (E : List (Nat × Blk)) (σ : H) : Prop where
  n : 3 ≤ σ.next
  h : lookF σ.bl 2 = none
  e : lookF E 2 = some (.cells p10C)
theorem P10.fr {E : List (Nat × Blk)} {S : Nat → Prop} {σ σ' : H} (h : P10 E σ) (f : Fr S σ σ') (hS : ¬ S 2) : P10 E σ' := ⟨Nat.le_trans h.n f.le, (f.same 2 (by have := h.n; omega) hS).trans h.h, h.e⟩
theorem P10.ld {E : List (Nat × Blk)} {σ : H} (h : P10 E σ) {n : Nat} (hn : n < 20) (κ : V → Ans) : ldK E σ 2 n κ = κ (.int .u64 (Int.ofNat (10 ^ n))) := by
  unfold ldK rdK
  rw [h.h, h.e]
  refine nthK_of ?_
  unfold p10C
  rw [nthF_eq, List.getElem?_map, List.getElem?_range hn]; rfl
def SpLog (F : List V → H → Ans) : Prop := ∀ (σ : H) (L : Nat), L ≤ 64 → F [.int .i64 (Int.ofNat L)] σ = some (.int .i64 (Int.ofNat (L * 78913 / 262144)), σ)
def SpB2 (F : List V → H → Ans) : Prop := ∀ (σ : H) (c : Bool), F [.bool c] σ = some (.int .i64 (Int.ofNat (cond c 1 0)), σ)
def SpND (E : List (Nat × Blk)) (F : List V → H → Ans) : Prop := ∀ (σ : H) (n : Nat), P10 E σ → 0 < n → n < 2 ^ 64 → F [.int .u64 (Int.ofNat n)] σ = some (.int .i64 (Int.ofNat (digsF 19 n).length), σ)
section
variable {E : List (Nat × Blk)} {D : Den} {W : DrawFn} {N : Nat}
theorem log_F : SpLog (F115 E D W N) := by
  intro σ L h
  show some (V.int .i64 (shrF .i64 (mulF .i64 (Int.ofNat L) (Int.ofNat 78913)) 18), σ) = _
  rw [mulN (show L * 78913 ≤ 9223372036854775807 by omega)]; rfl
theorem b2_F : SpB2 (F117 E D W N) := by
  intro σ c
  show condK c (some (V.int .i64 (Int.ofNat 1), σ)) (some (V.int .i64 (Int.ofNat 0), σ)) = _
  cases c <;> rfl
theorem nd_F (hL : SpBits (D 116)) (hG : SpLog (D 115)) (hB : SpB2 (D 117)) : SpND E (F100 E D W N) := by
  intro σ n hp h0 h
  obtain ⟨L, g1, l1, l2, l3, l4⟩ := hL σ n h0 h
  obtain ⟨t1, t2, t3⟩ := pow_tab ⟨L, by omega⟩ l1
  obtain ⟨d, hd⟩ : ∃ d, d = L * 78913 / 262144 := ⟨_, rfl⟩
  have t1 : L * 78913 / 262144 = 0 ∨ 10 ^ (L * 78913 / 262144 - 1) ≤ 2 ^ (L - 1) := t1
  have t2 : 2 ^ L ≤ 10 ^ (L * 78913 / 262144 + 1) := t2
  have t3 : L * 78913 / 262144 < 20 := t3
  have g2 := hG σ L l2
  rw [← hd] at t1 t2 t3 g2
  have hn20 : n < 10 ^ (19 + 1) := Nat.lt_of_lt_of_le h (by decide)
  have e : d + (cond (decide (10 ^ d ≤ n)) 1 0) = (digsF 19 n).length := by
    cases hc : decide (10 ^ d ≤ n) with
    | true => exact (digsF_num hn20 (of_decide_eq_true hc) (Nat.lt_of_lt_of_le l4 t2)).symm
    | false =>
      have hc := of_decide_eq_false hc
      have hd0 : d ≠ 0 := fun e => hc (by rw [e]; exact h0)
      obtain ⟨q, rfl⟩ : ∃ q, d = q + 1 := ⟨d - 1, by omega⟩
      have := t1.resolve_left hd0
      exact (digsF_num hn20 (Nat.le_trans this l3) (Nat.lt_of_not_le hc)).symm
  have g3 := hB σ (decide (10 ^ d ≤ n))
  have hb : Nat.blt d 20 = true := by simpa [Nat.blt_eq] using t3
  have ld := hp.ld t3
  have a1 : addF .i64 (Int.ofNat d) (Int.ofNat (cond (decide (10 ^ d ≤ n)) 1 0)) = Int.ofNat (digsF 19 n).length := by
    rw [addF_nat (by cases decide (10 ^ d ≤ n) <;> simp only [cond] <;> omega), e]
  show T100_0 E D W (Int.ofNat n) σ = _
  unfold T100_0
  simp -implicitDefEqProofs only [↓rP, rA, Nat.reduceEqDiff, Nat.reduceLT, Nat.reduceLeDiff, ↓g1, ↓g2, ↓nnK_nat, hb, Nat.zero_add, Nat.mul_one, Nat.mul_eq, ↓ld, ↓g3, a1]
/-! ### the digits put -/
abbrev smT : BS := BS.mk 200 9938655150514779720929161263213647789093395803754561035662628441001274968862597953692946393464194303251501229616933063375291039650253924995779037586872666250072396106842829501851083234932712366962979930255066872747696324303968523733872590022915936937156789320557469720923390131174387415513794469201054844961267015441141542819553679203788501627738430154234325528792480477051962324423099068299719245009424585859096469223093538032153047611602695245052081125123941502624659711709950000
theorem sm_tab : ∀ j : Fin 100, smT.get (j.val * 2) = 48 + j.val / 10 ∧ smT.get (j.val * 2 + 1) = 48 + j.val % 10 := by decide +kernel
theorem sm_hi {j : Nat} (h : j < 100) (κ : Int → Ans) : idxStrX smT (mulF .u32 (Int.ofNat j) (Int.ofNat 2)) κ = κ (Int.ofNat (48 + j / 10)) := by
  rw [mulN (show j * 2 ≤ 4294967295 by omega), idxStrX_nat (show j * 2 < 200 by omega)]
  exact congrArg (fun x => κ (Int.ofNat x)) (sm_tab ⟨j, h⟩).1
theorem sm_lo {j : Nat} (h : j < 100) (κ : Int → Ans) : idxStrX smT (addF .u32 (mulF .u32 (Int.ofNat j) (Int.ofNat 2)) (Int.ofNat 1)) κ = κ (Int.ofNat (48 + j % 10)) := by
  rw [mulN (show j * 2 ≤ 4294967295 by omega), addN (show j * 2 + 1 ≤ 4294967295 by omega), idxStrX_nat (show j * 2 + 1 < 200 by omega)]
  exact congrArg (fun x => κ (Int.ofNat x)) (sm_tab ⟨j, h⟩).2
/-- The cells of a block of octets that is filled from behind: A, so many that are not known, D. -/
def Fil (σ : H) (b c : Nat) (A : List V) (D : List Nat) (T : List V) : Prop := Tidy σ ∧ ∃ X : List V, X.length = c ∧ Atc σ b (A ++ X ++ (u8s (nI D) ++ T))
theorem Fil.put {σ : H} {b c d o : Nat} {A T : List V} {L : List Nat} (h : Fil σ b (c + 1) A L T) (ho : A.length = o) : ∃ σ', (∀ κ : H → Ans, stK 1 b (o + c) (.int .u8 (Int.ofNat d)) σ κ = κ σ') ∧ Fil σ' b c A (d :: L) T ∧ Fr (fun k => k = b) σ σ' := by
  obtain ⟨ht, X, hX, ha⟩ := h
  obtain ⟨X0, x, rfl⟩ : ∃ X0 x, X = X0 ++ [x] := by
    rcases List.eq_nil_or_concat X with e | ⟨X0, x, e⟩
    · rw [e] at hX; cases hX
    · exact ⟨X0, x, by rw [e, List.concat_eq_append]⟩
  rw [List.length_append, List.length_singleton] at hX
  have hX : X0.length = c := by omega
  have e : A ++ (X0 ++ [x]) ++ (u8s (nI L) ++ T) = (A ++ X0) ++ x :: (u8s (nI L) ++ T) := by simp only [List.append_assoc, List.singleton_append]
  rw [e] at ha
  have hl : (A ++ X0).length = o + c := by rw [List.length_append]; omega
  obtain ⟨σ', g, f, a⟩ := stz (y := .int .u8 (Int.ofNat d)) (off := o + c) ht ha rfl (by rw [List.length_append, hl]; simp)
  refine ⟨σ', g, ⟨f.tidy, X0, hX, ?_⟩, f⟩
  rw [← hl, spl_at] at a
  exact a
end
end
end Go.Proofs.YtabnjnkmdknhaaaGreatDoor
set_option linter.all false
set_option maxRecDepth 100000
namespace Go.Proofs.YtabnjnkmdknhaaaGreatDoor
open Go Go.Og
noncomputable section
theorem ia1 {b o n i : Nat} {cp : Cap} (h : i < n) (κ : Nat → Nat → Ans) : iaddrSK 1 (.sl b o n cp) (Int.ofNat i) κ = κ b (o + i) := by
  rw [iaddrSK_lt h]
  show κ b (o + i * 1) = _
  rw [Nat.mul_one]
theorem sb {c d : Nat} (h : d ≤ c) (hc : c ≤ 64) : subF .i64 (Int.ofNat c) (Int.ofNat d) = Int.ofNat (c - d) := subF_nat h (by omega)
theorem w32 {a : Nat} (h : a ≤ 4294967295) : wrapF .u32 (Int.ofNat a) = Int.ofNat a := wrapF_nat h
theorem q32 {a b : Nat} (h : a ≤ 4294967295) : quoF .u32 (Int.ofNat a) (Int.ofNat b) = Int.ofNat (a / b) := quoN (Nat.le_trans (Nat.div_le_self _ _) h)
/-! ### digits by pairs (no program) -/
theorem digW_2 (c u : Nat) (L : List Nat) : digW (c + 2) u ++ L = digW c (u / 100) ++ (48 + u % 100 / 10) :: (48 + u % 100 % 10) :: L := by
  simp only [digW, List.append_assoc, List.cons_append, List.nil_append]
  rw [show u / 10 / 10 = u / 100 by omega, show 48 + u / 10 % 10 = 48 + u % 100 / 10 by omega, show 48 + u % 10 = 48 + u % 100 % 10 by omega]
section
variable {E : List (Nat × Blk)} {D : Den} {W : DrawFn} {N : Nat} {b o n c u : Nat} {cp : Cap} {A T : List V} {L : List Nat} {σ : H}
theorem fb_8 {K1 R2 : V → Int → Int → H → Ans} (h : Fil σ b (c + 8) A L T) (ho : A.length = o) (hn : c + 8 ≤ n) (hc : n ≤ 24) (hu : u < 2 ^ 64) :
    ∃ σ', T101_2 E D W K1 R2 (.sl b o n cp) (Int.ofNat u) (Int.ofNat (c + 8)) σ = R2 (.sl b o n cp) (Int.ofNat (u / 100000000)) (Int.ofNat c) σ' ∧ (∀ v, digW (c + 8) u ++ v = digW c (u / 100000000) ++ ((48 + u % 100000000 / 10000 / 100 / 10) :: (48 + u % 100000000 / 10000 / 100 % 10) :: (48 + u % 100000000 / 10000 % 100 / 10) :: (48 + u % 100000000 / 10000 % 100 % 10) :: (48 + u % 100000000 % 10000 / 100 / 10) :: (48 + u % 100000000 % 10000 / 100 % 10) :: (48 + u % 100000000 % 10000 % 100 / 10) :: (48 + u % 100000000 % 10000 % 100 % 10) :: v)) ∧
      Fil σ' b c A ((48 + u % 100000000 / 10000 / 100 / 10) :: (48 + u % 100000000 / 10000 / 100 % 10) :: (48 + u % 100000000 / 10000 % 100 / 10) :: (48 + u % 100000000 / 10000 % 100 % 10) :: (48 + u % 100000000 % 10000 / 100 / 10) :: (48 + u % 100000000 % 10000 / 100 % 10) :: (48 + u % 100000000 % 10000 % 100 / 10) :: (48 + u % 100000000 % 10000 % 100 % 10) :: L) T ∧ Fr (fun k => k = b) σ σ' := by
  obtain ⟨x, hx⟩ : ∃ x, x = u % 100000000 := ⟨_, rfl⟩
  have hx8 : x < 100000000 := by omega
  obtain ⟨σ1, g1, h1, f1⟩ := h.put (d := 48 + x % 10000 % 100 % 10) ho
  obtain ⟨σ2, g2, h2, f2⟩ := h1.put (d := 48 + x % 10000 % 100 / 10) ho
  obtain ⟨σ3, g3, h3, f3⟩ := h2.put (d := 48 + x % 10000 / 100 % 10) ho
  obtain ⟨σ4, g4, h4, f4⟩ := h3.put (d := 48 + x % 10000 / 100 / 10) ho
  obtain ⟨σ5, g5, h5, f5⟩ := h4.put (d := 48 + x / 10000 % 100 % 10) ho
  obtain ⟨σ6, g6, h6, f6⟩ := h5.put (d := 48 + x / 10000 % 100 / 10) ho
  obtain ⟨σ7, g7, h7, f7⟩ := h6.put (d := 48 + x / 10000 / 100 % 10) ho
  obtain ⟨σ8, g8, h8, f8⟩ := h7.put (d := 48 + x / 10000 / 100 / 10) ho
  refine ⟨σ8, ?_, fun v => ?_, ?_, (((((((f1.trans f2 fun _ _ e => e).trans f3 fun _ _ e => e).trans f4 fun _ _ e => e).trans f5 fun _ _ e => e).trans f6 fun _ _ e => e).trans f7 fun _ _ e => e).trans f8 fun _ _ e => e)⟩
  · unfold T101_2
    have wx : wrapF .u32 (Int.ofNat x) = Int.ofNat x := w32 (by omega)
    have q1 : quoF .u32 (Int.ofNat x) (Int.ofNat 10000) = Int.ofNat (x / 10000) := q32 (by omega)
    have q2 : quoF .u32 (Int.ofNat (x % 10000)) (Int.ofNat 100) = Int.ofNat (x % 10000 / 100) := q32 (by omega)
    have q3 : quoF .u32 (Int.ofNat (x / 10000)) (Int.ofNat 100) = Int.ofNat (x / 10000 / 100) := q32 (by omega)
    have q4 : quoF .u64 (Int.ofNat u) (Int.ofNat 100000000) = Int.ofNat (u / 100000000) := quoN (show u / 100000000 ≤ 18446744073709551615 by omega)
    simp only [tm, ← hx, wx, q1, q2, q3, q4]
    rw [leF_nat, decide_eq_true (show 8 ≤ c + 8 by omega), condK_true]
    rw [sm_lo (show x % 10000 % 100 < 100 by omega), sm_hi (show x % 10000 % 100 < 100 by omega), sb (by omega) (by omega), ia1 (by omega)]
    rw [show c + 8 - 1 = c + 7 from rfl, g1, sb (by omega) (by omega), ia1 (by omega), show c + 8 - 2 = c + 6 from rfl, g2]
    rw [sm_lo (show x % 10000 / 100 < 100 by omega), sm_hi (show x % 10000 / 100 < 100 by omega), sb (by omega) (by omega), ia1 (by omega)]
    rw [show c + 8 - 3 = c + 5 from rfl, g3, sb (by omega) (by omega), ia1 (by omega), show c + 8 - 4 = c + 4 from rfl, g4]
    rw [sm_lo (show x / 10000 % 100 < 100 by omega), sm_hi (show x / 10000 % 100 < 100 by omega), sb (by omega) (by omega), ia1 (by omega)]
    rw [show c + 8 - 5 = c + 3 from rfl, g5, sb (by omega) (by omega), ia1 (by omega), show c + 8 - 6 = c + 2 from rfl, g6]
    rw [sm_lo (show x / 10000 / 100 < 100 by omega), sm_hi (show x / 10000 / 100 < 100 by omega), sb (by omega) (by omega), ia1 (by omega)]
    rw [show c + 8 - 7 = c + 1 from rfl, g7, sb (by omega) (by omega), ia1 (by omega), show c + 8 - 8 = c from rfl, g8]
  · rw [show c + 8 = (((c + 2) + 2) + 2) + 2 from rfl, digW_2, digW_2, digW_2, digW_2, ← hx]
    rw [show u / 100 / 100 / 100 / 100 = u / 100000000 by omega, show u % 100 = x % 10000 % 100 by omega, show u / 100 % 100 = x % 10000 / 100 by omega, show u / 100 / 100 % 100 = x / 10000 % 100 by omega, show u / 100 / 100 / 100 % 100 = x / 10000 / 100 by omega]
  · rw [← hx]; exact h8
end
end
end Go.Proofs.YtabnjnkmdknhaaaGreatDoor
set_option linter.all false
set_option maxRecDepth 100000
namespace Go.Proofs.YtabnjnkmdknhaaaGreatDoor
open Go Go.Og
noncomputable section
def SpFB (F : List V → H → Ans) : Prop := ∀ (σ : H) (b o n u : Nat) (cp : Cap) (A T : List V), Fil σ b n A [] T → A.length = o → n ≤ 24 → u < 10 ^ n → u < 2 ^ 64 →
  ∃ σ', F [.sl b o n cp, .int .u64 (Int.ofNat u)] σ = some (.tup [], σ') ∧ Fil σ' b 0 A (digW n u) T ∧ Fr (fun k => k = b) σ σ'
section
variable {E : List (Nat × Blk)} {D : Den} {W : DrawFn} {N : Nat} {b o n : Nat} {cp : Cap} {A T : List V}
theorem fb_L {K1 : V → Int → Int → H → Ans} (ho : A.length = o) (hn : n ≤ 24) : ∀ (k j c u : Nat) (L : List Nat) (σ : H), c < 8 + 8 * k → k < j → c ≤ n → u < 2 ^ 64 → u < 10 ^ c → Fil σ b c A L T →
    ∃ c' u' L' σ', (Nat.rec (fun _ _ _ _ => none) (fun _ ih => T101_2 E D W K1 ih) j : V → Int → Int → H → Ans) (.sl b o n cp) (Int.ofNat u) (Int.ofNat c) σ = K1 (.sl b o n cp) (Int.ofNat u') (Int.ofNat c') σ' ∧ c' < 8 ∧ u' < 10 ^ c' ∧ digW c' u' ++ L' = digW c u ++ L ∧ c' ≤ c ∧ Fil σ' b c' A L' T ∧ Fr (fun k => k = b) σ σ' := by
  intro k
  induction k with
  | zero =>
    intro j c u L σ h8 hj hc hu hp h
    obtain ⟨j, rfl⟩ : ∃ i, j = i + 1 := ⟨j - 1, by omega⟩
    refine ⟨c, u, L, σ, ?_, h8, hp, rfl, Nat.le_refl _, h, Fr.refl h.1⟩
    show T101_2 E D W K1 _ (.sl b o n cp) (Int.ofNat u) (Int.ofNat c) σ = _
    unfold T101_2
    rw [leF_nat, decide_eq_false (by omega), condK_false]
  | succ k ih =>
    intro j c u L σ h8 hj hc hu hp h
    obtain ⟨j, rfl⟩ : ∃ i, j = i + 1 := ⟨j - 1, by omega⟩
    by_cases hc8 : c < 8
    · refine ⟨c, u, L, σ, ?_, hc8, hp, rfl, Nat.le_refl _, h, Fr.refl h.1⟩
      show T101_2 E D W K1 _ (.sl b o n cp) (Int.ofNat u) (Int.ofNat c) σ = _
      unfold T101_2
      rw [leF_nat, decide_eq_false (by omega), condK_false]
    · obtain ⟨c, rfl⟩ : ∃ i, c = i + 8 := ⟨c - 8, by omega⟩
      obtain ⟨σ1, g1, e1, h1, f1⟩ := fb_8 (E := E) (D := D) (W := W) (cp := cp) (K1 := K1) (R2 := (Nat.rec (fun _ _ _ _ => none) (fun _ ih => T101_2 E D W K1 ih) j : V → Int → Int → H → Ans)) h ho hc hn hu
      have hu1 : u / 100000000 < 10 ^ c := by
        rw [Nat.div_lt_iff_lt_mul (by decide)]
        rw [Nat.pow_add] at hp; exact hp
      obtain ⟨c', u', L', σ', g2, l2, p2, e2, m2, h2, f2⟩ := ih j c (u / 100000000) _ σ1 (by omega) (by omega) (by omega) (by omega) hu1 h1
      refine ⟨c', u', L', σ', ?_, l2, p2, ?_, by omega, h2, f1.trans f2 fun _ _ e => e⟩
      · show T101_2 E D W K1 _ (.sl b o n cp) (Int.ofNat u) (Int.ofNat (c + 8)) σ = _
        rw [g1]; exact g2
      · rw [e2, e1]
theorem fb_4 {K3 : V → Int → Int → H → Ans} {σ : H} {c u : Nat} {L : List Nat} (h : Fil σ b c A L T) (ho : A.length = o) (hn : c ≤ n) (hc : n ≤ 24) (h8 : c < 8) (hu : u < 10 ^ c) :
    ∃ c' u' L' σ', T101_1 E D W K3 (.sl b o n cp) (Int.ofNat u) (Int.ofNat c) σ = K3 (.sl b o n cp) (Int.ofNat c') (Int.ofNat u') σ' ∧ c' < 4 ∧ u' < 10 ^ c' ∧ digW c' u' ++ L' = digW c u ++ L ∧ c' ≤ c ∧ Fil σ' b c' A L' T ∧ Fr (fun k => k = b) σ σ' := by
  have hu8 : u < 10 ^ 7 := Nat.lt_of_lt_of_le hu (Nat.pow_le_pow_right (by decide) (by omega))
  have wx : wrapF .u32 (Int.ofNat u) = Int.ofNat u := w32 (by omega)
  by_cases hc4 : c < 4
  · refine ⟨c, u, L, σ, ?_, hc4, hu, rfl, Nat.le_refl _, h, Fr.refl h.1⟩
    unfold T101_1
    rw [leF_nat, decide_eq_false (by omega), condK_false, wx]
  · obtain ⟨c, rfl⟩ : ∃ i, c = i + 4 := ⟨c - 4, by omega⟩
    obtain ⟨σ1, g1, h1, f1⟩ := h.put (d := 48 + u % 10000 % 100 % 10) ho
    obtain ⟨σ2, g2, h2, f2⟩ := h1.put (d := 48 + u % 10000 % 100 / 10) ho
    obtain ⟨σ3, g3, h3, f3⟩ := h2.put (d := 48 + u % 10000 / 100 % 10) ho
    obtain ⟨σ4, g4, h4, f4⟩ := h3.put (d := 48 + u % 10000 / 100 / 10) ho
    refine ⟨c, u / 10000, _, σ4, ?_, by omega, ?_, ?_, by omega, h4, ((f1.trans f2 fun _ _ e => e).trans f3 fun _ _ e => e).trans f4 fun _ _ e => e⟩
    · unfold T101_1
      have q1 : quoF .u32 (Int.ofNat u) (Int.ofNat 10000) = Int.ofNat (u / 10000) := q32 (by omega)
      have q2 : quoF .u32 (Int.ofNat (u % 10000)) (Int.ofNat 100) = Int.ofNat (u % 10000 / 100) := q32 (by omega)
      simp only [tm, wx, q1, q2]
      rw [leF_nat, decide_eq_true (show 4 ≤ c + 4 by omega), condK_true]
      rw [sm_lo (show u % 10000 % 100 < 100 by omega), sm_hi (show u % 10000 % 100 < 100 by omega), sb (by omega) (by omega), ia1 (by omega)]
      rw [show c + 4 - 1 = c + 3 from rfl, g1, sb (by omega) (by omega), ia1 (by omega), show c + 4 - 2 = c + 2 from rfl, g2]
      rw [sm_lo (show u % 10000 / 100 < 100 by omega), sm_hi (show u % 10000 / 100 < 100 by omega), sb (by omega) (by omega), ia1 (by omega)]
      rw [show c + 4 - 3 = c + 1 from rfl, g3, sb (by omega) (by omega), ia1 (by omega), show c + 4 - 4 = c from rfl, g4]
    · rw [Nat.div_lt_iff_lt_mul (by decide)]
      rw [Nat.pow_add] at hu; exact hu
    · rw [show c + 4 = (c + 2) + 2 from rfl, digW_2, digW_2, show u / 100 / 100 = u / 10000 by omega, show u % 100 = u % 10000 % 100 by omega, show u / 100 % 100 = u % 10000 / 100 by omega]
theorem fb_2 {K4 : V → Int → Int → H → Ans} {σ : H} {c u : Nat} {L : List Nat} (h : Fil σ b c A L T) (ho : A.length = o) (hn : c ≤ n) (hc : n ≤ 24) (h8 : c < 4) (hu : u < 10 ^ c) :
    ∃ c' u' L' σ', T101_3 E D W K4 (.sl b o n cp) (Int.ofNat c) (Int.ofNat u) σ = K4 (.sl b o n cp) (Int.ofNat c') (Int.ofNat u') σ' ∧ c' < 2 ∧ u' < 10 ^ c' ∧ digW c' u' ++ L' = digW c u ++ L ∧ c' ≤ c ∧ Fil σ' b c' A L' T ∧ Fr (fun k => k = b) σ σ' := by
  have hu8 : u < 10 ^ 3 := Nat.lt_of_lt_of_le hu (Nat.pow_le_pow_right (by decide) (by omega))
  by_cases hc4 : c < 2
  · refine ⟨c, u, L, σ, ?_, hc4, hu, rfl, Nat.le_refl _, h, Fr.refl h.1⟩
    unfold T101_3
    rw [leF_nat, decide_eq_false (by omega), condK_false]
  · obtain ⟨c, rfl⟩ : ∃ i, c = i + 2 := ⟨c - 2, by omega⟩
    obtain ⟨σ1, g1, h1, f1⟩ := h.put (d := 48 + u % 100 % 10) ho
    obtain ⟨σ2, g2, h2, f2⟩ := h1.put (d := 48 + u % 100 / 10) ho
    refine ⟨c, u / 100, _, σ2, ?_, by omega, ?_, ?_, by omega, h2, f1.trans f2 fun _ _ e => e⟩
    · unfold T101_3
      have q1 : quoF .u32 (Int.ofNat u) (Int.ofNat 100) = Int.ofNat (u / 100) := q32 (by omega)
      simp only [tm, q1]
      rw [leF_nat, decide_eq_true (show 2 ≤ c + 2 by omega), condK_true]
      rw [sm_lo (show u % 100 < 100 by omega), sm_hi (show u % 100 < 100 by omega), sb (by omega) (by omega), ia1 (by omega)]
      rw [show c + 2 - 1 = c + 1 from rfl, g1, sb (by omega) (by omega), ia1 (by omega), show c + 2 - 2 = c from rfl, g2]
    · rw [Nat.div_lt_iff_lt_mul (by decide)]
      rw [Nat.pow_add] at hu; exact hu
    · rw [digW_2]
theorem fb_1 {σ : H} {c u : Nat} {L : List Nat} (h : Fil σ b c A L T) (ho : A.length = o) (hn : c ≤ n) (h8 : c < 2) (hu : u < 10 ^ c) :
    ∃ σ', T101_4 E D W (.sl b o n cp) (Int.ofNat c) (Int.ofNat u) σ = some (.tup [], σ') ∧ Fil σ' b 0 A (digW c u ++ L) T ∧ Fr (fun k => k = b) σ σ' := by
  unfold T101_4
  rcases Nat.eq_zero_or_pos c with rfl | hc
  · refine ⟨σ, ?_, h, Fr.refl h.1⟩
    rw [ltF_nat, decide_eq_false (by decide), condK_false]
  · obtain rfl : c = 1 := by omega
    have hu : u < 10 := hu
    obtain ⟨σ1, g1, h1, f1⟩ := h.put (d := 48 + u % 10) ho
    refine ⟨σ1, ?_, h1, f1⟩
    have e1 : addF .u32 (Int.ofNat 48) (Int.ofNat u) = Int.ofNat (48 + u) := addN (show 48 + u ≤ 4294967295 by omega)
    have e2 : wrapF .u8 (Int.ofNat (48 + u)) = Int.ofNat (48 + u % 10) := by rw [wrapF_nat (show 48 + u ≤ 255 by omega), Nat.mod_eq_of_lt hu]
    rw [ltF_nat, decide_eq_true (by decide), condK_true, e1, e2, ia1 (by omega), g1]
theorem fb_F (hN : 4 < N) : SpFB (F101 E D W N) := by
  intro σ b o n u cp A T h ho hn hu hu64
  obtain ⟨c1, u1, L1, σ1, g1, l1, p1, e1, m1, h1, f1⟩ := fb_L (E := E) (D := D) (W := W) (cp := cp) (K1 := T101_1 E D W (T101_3 E D W (T101_4 E D W))) ho hn 3 N n u [] σ (by omega) (by omega) (Nat.le_refl _) hu64 hu h
  obtain ⟨c2, u2, L2, σ2, g2, l2, p2, e2, m2, h2, f2⟩ := fb_4 (E := E) (D := D) (W := W) (cp := cp) (K3 := T101_3 E D W (T101_4 E D W)) h1 ho m1 hn l1 p1
  obtain ⟨c3, u3, L3, σ3, g3, l3, p3, e3, m3, h3, f3⟩ := fb_2 (E := E) (D := D) (W := W) (cp := cp) (K4 := T101_4 E D W) h2 ho (by omega) hn l2 p2
  obtain ⟨σ4, g4, h4, f4⟩ := fb_1 (E := E) (D := D) (W := W) (cp := cp) (n := n) h3 ho (by omega) l3 p3
  refine ⟨σ4, ?_, ?_, ((f1.trans f2 fun _ _ e => e).trans f3 fun _ _ e => e).trans f4 fun _ _ e => e⟩
  · have k0 : ∀ K2, T101_0 E D W K2 (.sl b o n cp) (Int.ofNat u) σ = K2 (.sl b o n cp) (Int.ofNat u) (Int.ofNat n) σ := fun K2 => rfl
    show T101_0 E D W _ (.sl b o n cp) (Int.ofNat u) σ = _
    rw [k0]
    exact ((g1.trans g2).trans g3).trans g4
  · rw [e3, e2, e1, List.append_nil] at h4; exact h4
end
end
end Go.Proofs.YtabnjnkmdknhaaaGreatDoor
set_option linter.all false
set_option maxRecDepth 100000
namespace Go.Proofs.YtabnjnkmdknhaaaGreatDoor
open Go Go.Og
noncomputable section
def SpFI (E : List (Nat × Blk)) (F : List V → H → Ans) : Prop := ∀ (σ : H) (v : Int), P10 E σ → Tidy σ → In64 v → ∃ σ', F [.int .i64 v, .int .i64 (Int.ofNat 10)] σ = some (.str (ofN (numC v)), σ') ∧ Fr Nowhere σ σ'
def SpSmall (F : List V → H → Ans) : Prop := ∀ (σ : H) (m : Nat), m < 100 → F [.int .i64 (Int.ofNat m)] σ = some (.str (ofN (digsF 19 m)), σ)
abbrev dg36 : BS := BS.mk 36 237927390410950444456928663707796224754864904193074819559483181009558347043374296609072
theorem small_tab : ∀ j : Fin 100, (bif decide (j.val < 10) then dg36.sub j.val (j.val + 1) else smT.sub (j.val * 2) (j.val * 2 + 2)) = ofN (digsF 19 j.val) := by decide +kernel
theorem str_mid {E : List (Nat × Blk)} {σ : H} {b o n : Nat} {cp : Cap} {P T : List V} {L : List Nat} (ha : Atc σ b (P ++ (u8s (nI L) ++ T))) (ho : P.length = o) (hn : L.length = n) (hL : ∀ c ∈ L, c < 256) (κ : BS → Ans) : toStrK E σ (.sl b o n cp) κ = κ (ofN L) := by
  have hl : (u8s (nI L)).length = n := by rw [u8s_length, nI, List.length_map, hn]
  have e : ((P ++ (u8s (nI L) ++ T)).drop o).take (n * 1) = u8s (nI L) := by
    rw [← ho, List.drop_left, Nat.mul_one, ← hl, List.take_left]
  rw [toStrK_sl, srcK_ex ha (by rw [List.length_append, List.length_append, hl, ho]; omega), e, u8s_bytes]
  show κ (BS.ofList ((nI L).map fun c => UInt8.ofNat c.toNat)) = _
  rw [ofN_eq hL]
  unfold nI
  rw [List.map_map]; rfl
theorem replicate_mid (z : V) {n : Nat} (h : n ≤ 23) : [z] ++ List.replicate n z ++ (u8s (nI []) ++ List.replicate (23 - n) z) = List.replicate 24 z := by
  show (List.replicate 1 z ++ List.replicate n z) ++ List.replicate (23 - n) z = _
  rw [List.replicate_append_replicate, List.replicate_append_replicate, show 1 + n + (23 - n) = 24 by omega]
section
variable {E : List (Nat × Blk)} {D : Den} {W : DrawFn} {N : Nat}
theorem small_F : SpSmall (F99 E D W N) := by
  intro σ m h
  have e := small_tab ⟨m, h⟩
  show T99_0 E D W (Int.ofNat m) σ = _
  unfold T99_0
  rw [ltF_nat]
  have e : (bif decide (m < 10) then dg36.sub m (m + 1) else smT.sub (m * 2) (m * 2 + 2)) = ofN (digsF 19 m) := e
  cases hd : decide (m < 10) with
  | true =>
    have := of_decide_eq_true hd
    rw [hd] at e
    rw [condK_true, addF_nat (by omega), sliceStrX_both (by omega) (show m + 1 ≤ 36 by omega)]
    exact congrArg (fun x => some (V.str x, σ)) e
  | false =>
    rw [hd] at e
    rw [condK_false, mulN (show m * 2 ≤ 9223372036854775807 by omega), addF_nat (by omega), sliceStrX_both (by omega) (show m * 2 + 2 ≤ 200 by omega)]
    exact congrArg (fun x => some (V.str x, σ)) e
theorem arr_lo {b nd : Nat} (h : nd ≤ 23) : sliceArrV 24 1 (.ptr b 0) (some (.int .i64 (Int.ofNat 1))) (some (.int .i64 (Int.ofNat (1 + nd)))) none = some (.sl b 1 nd (.ex 23)) := by
  show (if (Nat.ble 1 (1 + nd) && Nat.ble (1 + nd) 24 && Nat.ble 24 24) = true then some (V.sl b 1 (1 + nd - 1) (.ex 23)) else none) = _
  rw [ble_of (show 1 ≤ 1 + nd by omega), ble_of (show 1 + nd ≤ 24 by omega), show 1 + nd - 1 = nd by omega]; rfl
theorem arr_all {b nd : Nat} (h : nd ≤ 23) : sliceArrV 24 1 (.ptr b 0) none (some (.int .i64 (Int.ofNat (1 + nd)))) none = some (.sl b 0 (1 + nd) (.ex 24)) := by
  show (if (Nat.ble 0 (1 + nd) && Nat.ble (1 + nd) 24 && Nat.ble 24 24) = true then some (V.sl b 0 (1 + nd - 0) (.ex 24)) else none) = _
  rw [ble_of (show 0 ≤ 1 + nd by omega), ble_of (show 1 + nd ≤ 24 by omega), show 1 + nd - 0 = 1 + nd by omega]; rfl
/-- Digits in the array, behind a sign or without one. -/
theorem fi_2 (hD : SpND E (D 100)) (hB : SpFB (D 101)) {σ0 σ : H} (v : Int) (b u : Nat) (hp : P10 E σ) (ht : Tidy σ) (hb : 2 < b) (ha : Atc σ b (List.replicate 24 (.int .u8 (Int.ofNat 0)))) (h0 : 0 < u) (hu : u < 2 ^ 64) (hv : numC v = bif ltF v (Int.ofNat 0) then 45 :: digsF 19 u else digsF 19 u) :
    ∃ σ', T90_2 E D W v b 0 (Int.ofNat u) σ = some (.str (ofN (numC v)), σ') ∧ Fr (fun k => k = b) σ σ' := by
  have hn20 : u < 10 ^ (19 + 1) := Nat.lt_of_lt_of_le hu (by decide)
  obtain ⟨d1, d2, d3, d4, _⟩ := digsF_ok 19 u hn20
  obtain ⟨nd, hnd⟩ : ∃ nd, nd = (digsF 19 u).length := ⟨_, rfl⟩
  have g1 := hD σ u hp h0 hu
  have hW := digsF_W 19 u hn20
  have hhi := digsF_hi 19 u hn20
  rw [← hnd] at g1 d3 d4 hW hhi
  have hF : Fil σ b nd [.int .u8 (Int.ofNat 0)] [] (List.replicate (23 - nd) (.int .u8 (Int.ofNat 0))) := ⟨ht, List.replicate nd (.int .u8 (Int.ofNat 0)), List.length_replicate, by rw [replicate_mid _ (by omega)]; exact ha⟩
  obtain ⟨σ1, g2, ⟨ht1, X, hX, a1⟩, f1⟩ := hB σ b 1 nd u (.ex 23) _ _ hF rfl (by omega) hhi hu
  obtain rfl : X = [] := List.eq_nil_of_length_eq_zero hX
  rw [List.append_nil, ← hW] at a1
  have s1 : addF .i64 (Int.ofNat 1) (Int.ofNat nd) = Int.ofNat (1 + nd) := addF_nat (by omega)
  have s2 := arr_lo (b := b) (show nd ≤ 23 by omega)
  have s3 := arr_all (b := b) (show nd ≤ 23 by omega)
  have k2 : T90_2 E D W v b 0 (Int.ofNat u) σ = condK (ltF v (Int.ofNat 0)) (stK 1 b (Nat.add 0 (Nat.mul 0 1)) (.int .u8 (Int.ofNat 45)) σ1 fun s9 => toStrK E s9 (.sl b 0 (1 + nd) (.ex 24)) fun t11 => some (.str t11, s9)) (toStrK E σ1 (.sl b 1 nd (.ex 23)) fun t13 => some (.str t13, σ1)) := by
    have gk : ∀ (v : V) (κ : V → Ans), gK (some v) κ = κ v := fun _ _ => rfl
    unfold T90_2
    simp -implicitDefEqProofs only [↓rP, rS, ↓g1, s1, s2, s3, gk, ↓g2]
  rw [k2, hv]
  cases hs : ltF v (Int.ofNat 0) with
  | true =>
    obtain ⟨σ2, g3, f3, a3⟩ := stz (y := .int .u8 (Int.ofNat 45)) (off := 0) ht1 a1 rfl (by simp)
    refine ⟨σ2, ?_, f1.trans f3 fun _ _ e => e⟩
    have a3 : Atc σ2 b ([] ++ (u8s (nI (45 :: digsF 19 u)) ++ List.replicate (23 - nd) (.int .u8 (Int.ofNat 0)))) := by
      have := spl_at [] (.int .u8 (Int.ofNat 0)) (u8s (nI (digsF 19 u)) ++ List.replicate (23 - nd) (.int .u8 (Int.ofNat 0))) (.int .u8 (Int.ofNat 45))
      have e : spl ([V.int .u8 (Int.ofNat 0)] ++ (u8s (nI (digsF 19 u)) ++ List.replicate (23 - nd) (.int .u8 (Int.ofNat 0)))) 0 [.int .u8 (Int.ofNat 45)] = _ := this
      rw [e] at a3; exact a3
    rw [condK_true, show Nat.add 0 (Nat.mul 0 1) = 0 from rfl, g3, str_mid (o := 0) a3 rfl (by rw [List.length_cons, ← hnd]; omega) (fun c hc => by
      rcases List.mem_cons.1 hc with rfl | hc
      · decide
      · exact d1.bd c hc)]
    rfl
  | false =>
    refine ⟨σ1, ?_, f1⟩
    rw [condK_false, str_mid (o := 1) a1 rfl hnd.symm d1.bd]; rfl
theorem negu (m : Nat) (h : m ≤ 9223372036854775807) : negF .u64 (wrapF .u64 (Int.negSucc m)) = Int.ofNat (m + 1) := by
  show wrapF .u64 (0 - wrapF .u64 (Int.negSucc m)) = _
  rw [wrap_u64, wrap_u64]
  simp only [Int.ofNat_eq_natCast]
  omega
theorem ifi_F (hD : SpND E (D 100)) (hB : SpFB (D 101)) (hS : SpSmall (D 99)) : SpFI E (F90 E D W N) := by
  intro σ v hp ht hv
  obtain ⟨h1, h2⟩ := hv
  show ∃ σ', T90_0 E D W (T90_1 E D W) (T90_2 E D W) v (Int.ofNat 10) σ = _ ∧ _
  obtain ⟨σ1, e1, f1, a1, n1⟩ := mkN ht (List.replicate 24 (.int .u8 (Int.ofNat 0)))
  have big : ∀ (u : Nat), 0 < u → u < 2 ^ 64 → (numC v = bif ltF v (Int.ofNat 0) then 45 :: digsF 19 u else digsF 19 u) → ∃ σ', T90_2 E D W v σ.next 0 (Int.ofNat u) σ1 = some (.str (ofN (numC v)), σ') ∧ Fr Nowhere σ σ' := by
    intro u h0 hu hn
    obtain ⟨σ2, g2, f2⟩ := fi_2 (W := W) (σ0 := σ) hD hB v σ.next u (hp.fr f1 (fun h => h)) f1.tidy (by have := hp.n; omega) a1 h0 hu hn
    exact ⟨σ2, g2, f1.trans f2 fun b hb e => by omega⟩
  unfold T90_0
  have e1' : newB σ (.cells [.int .u8 (Int.ofNat 0), .int .u8 (Int.ofNat 0), .int .u8 (Int.ofNat 0), .int .u8 (Int.ofNat 0), .int .u8 (Int.ofNat 0), .int .u8 (Int.ofNat 0), .int .u8 (Int.ofNat 0), .int .u8 (Int.ofNat 0), .int .u8 (Int.ofNat 0), .int .u8 (Int.ofNat 0), .int .u8 (Int.ofNat 0), .int .u8 (Int.ofNat 0), .int .u8 (Int.ofNat 0), .int .u8 (Int.ofNat 0), .int .u8 (Int.ofNat 0), .int .u8 (Int.ofNat 0), .int .u8 (Int.ofNat 0), .int .u8 (Int.ofNat 0), .int .u8 (Int.ofNat 0), .int .u8 (Int.ofNat 0), .int .u8 (Int.ofNat 0), .int .u8 (Int.ofNat 0), .int .u8 (Int.ofNat 0), .int .u8 (Int.ofNat 0)]) = σ1 := e1
  cases v with
  | ofNat m =>
    simp only [Int.ofNat_eq_natCast] at h1 h2
    have d0 : ltF (Int.ofNat m) (Int.ofNat 0) = false := by rw [ltF_nat]; exact decide_eq_false (by omega)
    have w0 : wrapF .u64 (Int.ofNat m) = Int.ofNat m := wrapF_nat (show m ≤ 18446744073709551615 by omega)
    cases hd : decide (m < 100) with
    | true =>
      refine ⟨σ, ?_, Fr.refl ht⟩
      have g := hS σ m (of_decide_eq_true hd)
      simp -implicitDefEqProofs only [↓rP, rA, Nat.reduceEqDiff, Nat.reduceLT, Nat.reduceLeDiff, hd, ↓g, Nat.zero_le]
      rfl
    | false =>
      have := of_decide_eq_false hd
      obtain ⟨σ2, g2, f2⟩ := big m (by omega) (by omega) (by rw [d0]; rfl)
      refine ⟨σ2, ?_, f2⟩
      simp -implicitDefEqProofs only [↓rP, rA, Nat.reduceEqDiff, Nat.reduceLT, Nat.reduceLeDiff, hd, ↓e1', d0, w0, Nat.zero_le, Nat.not_lt_zero]
      exact g2
  | negSucc m =>
    have hm : m ≤ 9223372036854775807 := by omega
    have d0 : ltF (Int.negSucc m) (Int.ofNat 0) = true := rfl
    have d1 : leF (Int.ofNat 0) (Int.negSucc m) = false := rfl
    have w0 := negu m hm
    obtain ⟨σ2, g2, f2⟩ := big (m + 1) (by omega) (by omega) (by rw [d0]; rfl)
    refine ⟨σ2, ?_, f2⟩
    simp -implicitDefEqProofs only [↓rP, rA, Nat.reduceEqDiff, Nat.reduceLT, Nat.reduceLeDiff, d1, ↓e1', d0, w0]
    exact g2
theorem sfi_F (h : SpFI E (D 90)) : SpFI E (F71 E D W N) := by
  intro σ v hp ht hv
  obtain ⟨σ1, g1, f1⟩ := h σ v hp ht hv
  refine ⟨σ1, ?_, f1⟩
  show T71_0 E D W v (Int.ofNat 10) σ = _
  unfold T71_0
  rw [g1]; rfl
end
end
end Go.Proofs.YtabnjnkmdknhaaaGreatDoor
set_option linter.all false
set_option maxRecDepth 100000
namespace Go.Proofs.YtabnjnkmdknhaaaGreatDoor
open Go Go.Og
noncomputable section
/-- A printer whose text is L so far; Q: blocks that it leaves alone. -/
def Wp (Q : Nat → Prop) (σ : H) (P : Nat) (r : List V) (L : List Nat) : Prop :=
  Tidy σ ∧ ¬ Q P ∧ (∀ b, Q b → b < σ.next) ∧ ∃ u, Atc σ P (u :: .bool false :: r) ∧ Dst σ 1 L.length u (u8s (nI L)) ∧ ∀ b, Names u b → ¬ Q b ∧ b ≠ P
abbrev ByT (p : List Nat) : Prop := ∀ c ∈ p, c < 256
def txC (ps : List (List Nat)) : List V := ps.map fun p => .str (ofN p)
def SpPut (F : List V → H → Ans) : Prop := ∀ (Q : Nat → Prop) (σ : H) (P xb : Nat) (r : List V) (L : List Nat) (ps : List (List Nat)), Wp Q σ P r L → Q xb → Atc σ xb (txC ps) → (∀ p ∈ ps, ByT p) → L.length + ps.flatten.length ≤ 30000 → ps.length ≤ 100 →
  ∃ σ', F [.ptr P 0, .sl xb 0 ps.length (.ex ps.length)] σ = some (.tup [], σ') ∧ Wp Q σ' P r (L ++ ps.flatten) ∧ Fr (fun b => ¬ Q b) σ σ'
theorem spl_nil : ∀ l : List V, spl l 0 [] = l
  | [] => rfl
  | _ :: _ => rfl
theorem ints_nats (s : BS) : ints s.toList = u8s (nI s.nats) := by
  unfold ints u8s nI BS.nats
  rw [List.map_map, List.map_map]; rfl
theorem Wp.lt {Q : Nat → Prop} {σ : H} {P : Nat} {r : List V} {L : List Nat} (h : Wp Q σ P r L) : P < σ.next := by
  obtain ⟨ht, _, _, u, ha, _⟩ := h
  exact ha.lt ht
/-- A new block is held besides. -/
theorem Wp.hold {Q : Nat → Prop} {σ : H} {P : Nat} {r : List V} {L : List Nat} (h : Wp Q σ P r L) (z : List V) : ∃ σ1, newB σ (.cells z) = σ1 ∧ Wp (fun b => Q b ∨ b = σ.next) σ1 P r L ∧ Atc σ1 σ.next z ∧ Fr Nowhere σ σ1 := by
  have hlt := h.lt
  obtain ⟨ht, hP, hq, u, ha, hd, hu⟩ := h
  obtain ⟨σ1, e1, f1, a1, n1⟩ := mkN ht z
  refine ⟨σ1, e1, ⟨f1.tidy, fun e => e.elim hP (fun e => by omega), fun b e => e.elim (fun e => by have := hq b e; omega) (fun e => by omega), u, f1.at_ ha ht (fun e => e), hd.fr f1 ht (fun _ _ e => e), fun b hb => ⟨fun e => e.elim (hu b hb).1 (fun e => by have := hd.lt ht hb; omega), (hu b hb).2⟩⟩, a1, f1⟩
theorem Wp.mono {Q R : Nat → Prop} {σ : H} {P : Nat} {r : List V} {L : List Nat} (h : Wp Q σ P r L) (hR : ∀ b, R b → Q b) : Wp R σ P r L := by
  obtain ⟨ht, hP, hq, u, ha, hd, hu⟩ := h
  exact ⟨ht, fun e => hP (hR _ e), fun b e => hq b (hR b e), u, ha, hd, fun b hb => ⟨fun e => (hu b hb).1 (hR b e), (hu b hb).2⟩⟩
section
variable {E : List (Nat × Blk)} {D : Den} {W : DrawFn} {N : Nat}
theorem put_1 {Q : Nat → Prop} {σ : H} {P : Nat} {r : List V} {L : List Nat} (h : Wp Q σ P r L) (hL : L.length ≤ 30000) : ∃ σ', T18_1 E D W P 0 σ = some (.tup [], σ') ∧ Wp Q σ' P r L ∧ Fr (fun b => ¬ Q b) σ σ' := by
  obtain ⟨ht, hP, hq, u, ha, hd, hu⟩ := h
  obtain ⟨σ1, g1, f1, a1⟩ := stz (y := .bool false) (off := 1) ht ha rfl (by simp)
  have a1 : Atc σ1 P (u :: .bool false :: r) := by
    have e : spl (u :: V.bool false :: r) 1 [.bool false] = u :: .bool false :: r := by
      show u :: .bool false :: spl r 0 [] = _
      rw [spl_nil]
    rw [e] at a1; exact a1
  have d1 : decide (32000 < L.length) = false := decide_eq_false (by omega)
  refine ⟨σ1, ?_, ⟨f1.tidy, hP, fun b e => Nat.lt_of_lt_of_le (hq b e) f1.le, u, a1, hd.fr f1 ht (fun b hb e => (hu b hb).2 e), hu⟩, f1.mono fun b _ e => by rw [e]; exact hP⟩
  unfold T18_1
  have sl : ∀ κ : Nat → Ans, slenK u κ = κ L.length := fun κ => hd.slen
  simp -implicitDefEqProofs only [↓rP, rA, Nat.reduceEqDiff, Nat.reduceLT, Nat.reduceLeDiff, ↓ldK_is ha, sl, d1, ↓g1]
theorem put_L {K1 : Nat → Nat → H → Ans} {Q : Nat → Prop} {P xb n : Nat} {r : List V} : ∀ (ps qs : List (List Nat)) (j k : Nat) (L : List Nat) (σ : H), Wp Q σ P r L → Q xb → Atc σ xb (txC (qs ++ ps)) → qs.length = k → (qs ++ ps).length = n → n ≤ 100 → ps.length < j → (∀ p ∈ ps, ByT p) → L.length + ps.flatten.length ≤ 30000 →
    ∃ σ', (Nat.rec (fun _ _ _ _ _ _ => none) (fun _ ih => T18_2 E D W K1 ih) j : Nat → Nat → V → Int → Int → H → Ans) P 0 (.sl xb 0 n (.ex n)) (Int.ofNat n) (Int.ofNat k) σ = K1 P 0 σ' ∧ Wp Q σ' P r (L ++ ps.flatten) ∧ Fr (fun b => ¬ Q b) σ σ' := by
  intro ps
  induction ps with
  | nil =>
    intro qs j k L σ h hx hxa hk hn hn9 hj hb hl
    obtain ⟨j, rfl⟩ : ∃ i, j = i + 1 := ⟨j - 1, by simp at hj; omega⟩
    rw [List.append_nil] at hn
    refine ⟨σ, ?_, by rw [List.flatten_nil, List.append_nil]; exact h, Fr.refl h.1⟩
    show T18_2 E D W K1 _ P 0 (.sl xb 0 n (.ex n)) (Int.ofNat n) (Int.ofNat k) σ = _
    unfold T18_2
    rw [ltF_nat, decide_eq_false (by omega), condK_false]
  | cons p ps ih =>
    intro qs j k L σ h hx hxa hk hn hn9 hj hb hl
    rw [List.length_cons] at hj
    obtain ⟨j, rfl⟩ : ∃ i, j = i + 1 := ⟨j - 1, by omega⟩
    rw [List.flatten_cons, List.length_append] at hl
    have hkn : k < n := by rw [List.length_append, List.length_cons] at hn; omega
    obtain ⟨ht, hP, hq, u, ha, hd, hu⟩ := h
    have hbp := hb p List.mem_cons_self
    have hsl : (ofN p).len = p.length := ofN_len p
    have hin : ints (ofN p).toList = u8s (nI p) := by rw [ints_nats, ofN_nats hbp]
    obtain ⟨u1, σ1, g1, d1, n1, f1⟩ := app_str (E := E) (s := ofN p) hd ht (by rw [hin]; exact u8s_one _) (by rw [hsl]; unfold growable; rw [ble_of (by omega), ble_of (by omega)]; rfl)
    rw [hin, hsl] at d1
    have hP1 : ¬ Names u P := fun e => (hu P e).2 rfl
    have ha1 := f1.at_ ha ht hP1
    obtain ⟨σ2, g2, f2, a2⟩ := stz (y := u1) (off := 0) f1.tidy ha1 d1.one (by simp)
    have a2 : Atc σ2 P (u1 :: .bool false :: r) := a2
    have hu1 : ∀ b, Names u1 b → ¬ Q b ∧ b ≠ P := fun b e => (n1 b e).elim (hu b) fun e => ⟨fun q => by have := hq b q; omega, fun q => by have := ha.lt ht; omega⟩
    have h2 : Wp Q σ2 P r (L ++ p) := ⟨f2.tidy, hP, fun b e => Nat.lt_of_lt_of_le (hq b e) (Nat.le_trans f1.le f2.le), u1, a2, by
      have e : u8s (nI L) ++ u8s (nI p) = u8s (nI (L ++ p)) := by unfold nI; rw [← u8s_app, List.map_append]
      rw [e] at d1
      rw [List.length_append]
      exact d1.fr f2 f1.tidy fun b hb e => (hu1 b hb).2 e, hu1⟩
    have f02 : Fr (fun b => ¬ Q b) σ σ2 := (f1.mono fun b _ e => (hu b e).1 : Fr (fun b => ¬ Q b) σ σ1).trans f2 fun b _ e => by rw [e]; exact hP
    have hxa2 : Atc σ2 xb (txC ((qs ++ [p]) ++ ps)) := by
      rw [List.append_assoc]; exact f02.at_ hxa ht (fun e => e hx)
    have ld : ∀ κ : V → Ans, ldK E σ xb k κ = κ (.str (ofN p)) := fun κ => ldK_get hxa (by
      unfold txC
      rw [List.getElem?_map, List.getElem?_append_right (by omega), hk, Nat.sub_self]; rfl)
    obtain ⟨σ3, g3, h3, f3⟩ := ih (qs ++ [p]) j (k + 1) (L ++ p) σ2 h2 hx hxa2 (by rw [List.length_append, hk]; rfl) (by rw [List.append_assoc]; exact hn) hn9 (by omega) (fun q hq => hb q (List.mem_cons_of_mem _ hq)) (by rw [List.length_append]; omega)
    refine ⟨σ3, ?_, by rw [List.flatten_cons, ← List.append_assoc]; exact h3, f02.trans f3 fun _ _ e => e⟩
    have s1 : addF .i64 (Int.ofNat k) (Int.ofNat 1) = Int.ofNat (k + 1) := addF_nat (by omega)
    have dk : decide (k < n) = true := decide_eq_true hkn
    have i1 : ∀ κ : Nat → Nat → Ans, iaddrSK 1 (.sl xb 0 n (.ex n)) (Int.ofNat k) κ = κ xb k := fun κ => by rw [ia1 hkn, Nat.zero_add]
    have key : ∀ R2, T18_2 E D W K1 R2 P 0 (.sl xb 0 n (.ex n)) (Int.ofNat n) (Int.ofNat k) σ = R2 P 0 (.sl xb 0 n (.ex n)) (Int.ofNat n) (Int.ofNat (k + 1)) σ2 := by
      intro R2
      unfold T18_2
      simp -implicitDefEqProofs only [↓rP, rA, Nat.reduceEqDiff, Nat.reduceLT, Nat.reduceLeDiff, dk, ↓i1, ↓ld, ↓ldK_is ha, ↓g1, ↓rtOne_of d1.one, ↓g2, s1]
    show T18_2 E D W K1 _ P 0 (.sl xb 0 n (.ex n)) (Int.ofNat n) (Int.ofNat k) σ = _
    rw [key]; exact g3
theorem put_F (hN : 100 < N) : SpPut (F18 E D W N) := by
  intro Q σ P xb r L ps h hx hxa hb hl hn
  obtain ⟨σ1, g1, h1, f1⟩ := put_L (E := E) (D := D) (W := W) (K1 := T18_1 E D W) (Q := Q) (P := P) (xb := xb) (n := ps.length) ps [] N 0 L σ h hx hxa rfl rfl hn (by omega) hb hl
  obtain ⟨σ2, g2, h2, f2⟩ := put_1 (E := E) (D := D) (W := W) h1 (by rw [List.length_append]; exact hl)
  refine ⟨σ2, ?_, h2, f1.trans f2 fun _ _ e => e⟩
  show (Nat.rec (fun _ _ _ _ _ _ => none) (fun _ ih => T18_2 E D W (T18_1 E D W) ih) N : Nat → Nat → V → Int → Int → H → Ans) P 0 (.sl xb 0 ps.length (.ex ps.length)) (Int.ofNat ps.length) (Int.ofNat 0) σ = _
  rw [g1]; exact g2
/-- Texts that stand in a new block are put. -/
theorem SpPut.new (hp : SpPut (D 18)) {Q : Nat → Prop} {σ : H} {P : Nat} {r : List V} {L : List Nat} (h : Wp Q σ P r L) (ps : List (List Nat)) (hb : ∀ p ∈ ps, ByT p) (hl : L.length + ps.flatten.length ≤ 30000) (hn : ps.length ≤ 100) :
    ∃ σ1 σ', newB σ (.cells (txC ps)) = σ1 ∧ D 18 [.ptr P 0, .sl σ.next 0 ps.length (.ex ps.length)] σ1 = some (.tup [], σ') ∧ Wp Q σ' P r (L ++ ps.flatten) ∧ Fr (fun b => ¬ Q b) σ σ' := by
  have hq := h.2.2.1
  obtain ⟨σ1, e1, h1, a1, f1⟩ := h.hold (txC ps)
  obtain ⟨σ2, g2, h2, f2⟩ := hp _ σ1 P σ.next r L ps h1 (.inr rfl) a1 hb hl hn
  exact ⟨σ1, σ2, e1, g2, h2.mono fun b e => .inl e, (f1.mono fun b _ e => e.elim : Fr (fun b => ¬ Q b) σ σ1).trans f2 fun b hb e q => e (.inl q)⟩
end
end
end Go.Proofs.YtabnjnkmdknhaaaGreatDoor
set_option linter.all false
set_option maxRecDepth 100000
namespace Go.Proofs.YtabnjnkmdknhaaaGreatDoor
open Go Go.Og
noncomputable section
/-- A printer at work; the table of powers lies where it did. -/
structure Wq (E : List (Nat × Blk)) (Q : Nat → Prop) (σ : H) (P : Nat) (r : List V) (L : List Nat) : Prop where
  w : Wp Q σ P r L
  p : P10 E σ
  q : Q 2
section
variable {E : List (Nat × Blk)} {Q : Nat → Prop} {σ σ' : H} {P : Nat} {r : List V} {L L' : List Nat}
theorem Wq.step (h : Wq E Q σ P r L) (w : Wp Q σ' P r L') (f : Fr (fun b => ¬ Q b) σ σ') : Wq E Q σ' P r L' := ⟨w, h.p.fr f (fun e => e h.q), h.q⟩
theorem Wq.fr0 (h : Wq E Q σ P r L) (f : Fr Nowhere σ σ') : Wq E Q σ' P r L := by
  obtain ⟨⟨ht, hP, hq, u, ha, hd, hu⟩, hp, h2⟩ := h
  exact ⟨⟨f.tidy, hP, fun b e => Nat.lt_of_lt_of_le (hq b e) f.le, u, f.at_ ha ht (fun e => e), hd.fr f ht (fun _ _ e => e), hu⟩, hp.fr f (fun e => e), h2⟩
theorem Wq.hold (h : Wq E Q σ P r L) (z : List V) : ∃ σ1, newB σ (.cells z) = σ1 ∧ Wq E (fun b => Q b ∨ b = σ.next) σ1 P r L ∧ Atc σ1 σ.next z ∧ Fr Nowhere σ σ1 := by
  obtain ⟨σ1, e1, h1, a1, f1⟩ := h.w.hold z
  exact ⟨σ1, e1, ⟨h1, h.p.fr f1 (fun e => e), .inl h.q⟩, a1, f1⟩
theorem Wq.mono {R : Nat → Prop} (h : Wq E Q σ P r L) (hR : ∀ b, R b → Q b) (h2 : R 2) : Wq E R σ P r L := ⟨h.w.mono hR, h.p, h2⟩
end
def fr0 {Q : Nat → Prop} {σ σ' : H} (f : Fr Nowhere σ σ') : Fr (fun b => ¬ Q b) σ σ' := f.mono fun _ _ e => e.elim
def frQ {Q : Nat → Prop} {σ σ' σ'' : H} (f : Fr (fun b => ¬ Q b) σ σ') (g : Fr (fun b => ¬ Q b) σ' σ'') : Fr (fun b => ¬ Q b) σ σ'' := f.trans g fun _ _ e => e
def frH {Q : Nat → Prop} {σ σ' : H} {x : Nat} (f : Fr (fun b => ¬ (Q b ∨ b = x)) σ σ') : Fr (fun b => ¬ Q b) σ σ' := f.mono fun b _ e q => e (.inl q)
/-! ### the texts -/
def bndT (c : ConS) : List Nat := (bif (c.hasLow && c.hasHigh) && eqF c.low c.high then numC c.low else (bif c.hasLow then numC c.low else [77, 73, 78]) ++ ([46, 46] ++ (bif c.hasHigh then numC c.high else [77, 65, 88]))) ++ (bif c.more then [44, 32, 46, 46, 46] else [])
def conT (c : ConS) (a b : List Nat) : List Nat := bif c.has then a ++ (bndT c ++ b) else []
theorem numC_by {v : Int} (h : In64 v) : ByT (numC v) ∧ (numC v).length ≤ 21 := by
  obtain ⟨h1, h2⟩ := h
  cases v with
  | ofNat m =>
    simp only [Int.ofNat_eq_natCast] at h1 h2
    obtain ⟨d1, d2, d3, d4, _⟩ := digsF_ok 19 m (by show m < 100000000000000000000; omega)
    exact ⟨d1.bd, by show (digsF 19 m).length ≤ 21; omega⟩
  | negSucc m =>
    obtain ⟨d1, d2, d3, d4, _⟩ := digsF_ok 19 (m + 1) (by show m + 1 < 100000000000000000000; omega)
    refine ⟨fun c hc => ?_, by show (digsF 19 (m + 1)).length + 1 ≤ 21; omega⟩
    rcases List.mem_cons.1 hc with rfl | hc
    · decide
    · exact d1.bd c hc
theorem bndT_len {c : ConS} (h1 : In64 c.low) (h2 : In64 c.high) : (bndT c).length ≤ 60 := by
  have n1 := (numC_by h1).2
  have n2 := (numC_by h2).2
  unfold bndT
  cases (c.hasLow && c.hasHigh) && eqF c.low c.high <;> cases c.hasLow <;> cases c.hasHigh <;> cases c.more <;> simp only [cond, List.length_append, List.length_cons, List.length_nil] <;> omega
theorem bsM : BS.mk 3 5130573 = ofN [77, 73, 78] := by decide +kernel
theorem bsX : BS.mk 3 5783885 = ofN [77, 65, 88] := by decide +kernel
theorem bsD : BS.mk 2 11822 = ofN [46, 46] := by decide +kernel
theorem bsE : BS.mk 5 198343270444 = ofN [44, 32, 46, 46, 46] := by decide +kernel
def SpNum (E : List (Nat × Blk)) (F : List V → H → Ans) : Prop := ∀ (Q : Nat → Prop) (σ : H) (P : Nat) (r : List V) (L : List Nat) (v : Int), Wq E Q σ P r L → In64 v → L.length ≤ 29000 →
  ∃ σ', F [.ptr P 0, .int .i64 v] σ = some (.tup [], σ') ∧ Wq E Q σ' P r (L ++ numC v) ∧ Fr (fun b => ¬ Q b) σ σ'
def SpBnd (E : List (Nat × Blk)) (F : List V → H → Ans) : Prop := ∀ (Q : Nat → Prop) (σ : H) (P : Nat) (r : List V) (L : List Nat) (c : ConS), Wq E Q σ P r L → In64 c.low → In64 c.high → L.length ≤ 28000 →
  ∃ σ', F [.ptr P 0, .agg c.c] σ = some (.tup [], σ') ∧ Wq E Q σ' P r (L ++ bndT c) ∧ Fr (fun b => ¬ Q b) σ σ'
def SpCon (E : List (Nat × Blk)) (F : List V → H → Ans) : Prop := ∀ (Q : Nat → Prop) (σ : H) (P : Nat) (r : List V) (L : List Nat) (c : ConS) (a b : List Nat), Wq E Q σ P r L → In64 c.low → In64 c.high → L.length ≤ 27000 → ByT a → ByT b → a.length ≤ 20 → b.length ≤ 20 →
  ∃ σ', F [.ptr P 0, .agg c.c, .str (ofN a), .str (ofN b)] σ = some (.tup [], σ') ∧ Wq E Q σ' P r (L ++ conT c a b) ∧ Fr (fun b => ¬ Q b) σ σ'
def SpMark (F : List V → H → Ans) : Prop := ∀ (σ : H) (P : Nat) (n m : Int), Tidy σ → ∃ σ', F [.ptr P 0, .agg [.bool false, .int .i64 n, .int .i64 m]] σ = some (.tup [], σ') ∧ Fr Nowhere σ σ'
section
variable {E : List (Nat × Blk)} {D : Den} {W : DrawFn} {N : Nat}
/-- One text is put. -/
theorem put1 (hp : SpPut (D 18)) {Q : Nat → Prop} {σ : H} {P : Nat} {r : List V} {L : List Nat} (h : Wq E Q σ P r L) (p : List Nat) (hb : ByT p) (hl : L.length + p.length ≤ 30000) :
    ∃ σ1 σ', newB σ (.cells [.str (ofN p)]) = σ1 ∧ D 18 [.ptr P 0, .sl σ.next 0 1 (.ex 1)] σ1 = some (.tup [], σ') ∧ Wq E Q σ' P r (L ++ p) ∧ Fr (fun b => ¬ Q b) σ σ' := by
  have e : [p].flatten = p := by simp
  obtain ⟨σ1, σ', e1, g, w, f⟩ := hp.new h.w [p] (fun x hx => by rw [List.mem_singleton.1 hx]; exact hb) (by rw [e]; exact hl) (show 1 ≤ 100 by decide)
  rw [e] at w
  exact ⟨σ1, σ', e1, g, h.step w f, f⟩
theorem num_F (hI : SpFI E (D 71)) (hp : SpPut (D 18)) : SpNum E (F54 E D W N) := by
  intro Q σ P r L v h hv hl
  obtain ⟨nb, nl⟩ := numC_by hv
  obtain ⟨σ1, g1, f1⟩ := hI σ v h.p h.w.1 hv
  obtain ⟨σ2, σ3, e2, g2, w2, f2⟩ := put1 hp (h.fr0 f1) (numC v) nb (by omega)
  refine ⟨σ3, ?_, w2, frQ (fr0 f1) f2⟩
  show T54_0 E D W (.ptr P 0) v σ = _
  unfold T54_0
  simp -implicitDefEqProofs only [↓rP, rS, ↓g1, ↓e2, ↓g2]
theorem mark_F : SpMark (F31 E D W N) := by
  intro σ P n m ht
  obtain ⟨σ1, e1, f1, a1, n1⟩ := mkN ht [.bool false, .int .i64 n, .int .i64 m]
  refine ⟨σ1, ?_, f1⟩
  show T31_0 E D W P 0 false n m σ = _
  unfold T31_0
  simp -implicitDefEqProofs only [↓rP, rA, Nat.reduceEqDiff, Nat.reduceLT, Nat.reduceLeDiff, nbK, ↓e1, ↓ldK_is a1]
/-- What says that there may be more. -/
theorem bnd_1 (hp : SpPut (D 18)) {Q : Nat → Prop} {σ : H} {P x : Nat} {r : List V} {L : List Nat} {c : ConS} (h : Wq E Q σ P r L) (ha : Atc σ x c.c) (hl : L.length ≤ 29000) :
    ∃ σ', T55_1 E D W P 0 x 0 σ = some (.tup [], σ') ∧ Wq E Q σ' P r (L ++ (bif c.more then [44, 32, 46, 46, 46] else [])) ∧ Fr (fun b => ¬ Q b) σ σ' := by
  unfold ConS.c at ha
  unfold T55_1
  cases hm : c.more with
  | true =>
    rw [hm] at ha
    obtain ⟨σ2, σ3, e2, g2, w2, f2⟩ := put1 hp h [44, 32, 46, 46, 46] (by decide) (by simp; omega)
    rw [← bsE] at e2
    refine ⟨σ3, ?_, w2, f2⟩
    simp -implicitDefEqProofs only [↓rP, rS, ↓ldK_is ha, ↓e2, ↓g2]
  | false =>
    rw [hm] at ha
    refine ⟨σ, ?_, by show Wq E Q σ P r (L ++ []); rw [List.append_nil]; exact h, Fr.refl h.w.1⟩
    simp -implicitDefEqProofs only [↓rP, rS, ↓ldK_is ha]
/-- The upper bound. -/
theorem bnd_2 (hp : SpPut (D 18)) (hN : SpNum E (D 54)) {Q : Nat → Prop} {σ : H} {P x : Nat} {r : List V} {L : List Nat} {c : ConS} (h : Wq E Q σ P r L) (hx : Q x) (ha : Atc σ x c.c) (h2 : In64 c.high) (hl : L.length ≤ 28900) :
    ∃ σ', (∀ K1, T55_2 E D W K1 P 0 x 0 σ = K1 P 0 x 0 σ') ∧ Wq E Q σ' P r (L ++ ([46, 46] ++ (bif c.hasHigh then numC c.high else [77, 65, 88]))) ∧ Fr (fun b => ¬ Q b) σ σ' := by
  obtain ⟨σ2, σ3, e2, g2, w2, f2⟩ := put1 hp h [46, 46] (by decide) (by simp; omega)
  rw [← bsD] at e2
  have ha3 := f2.at_ ha h.w.1 (fun e => e hx)
  unfold ConS.c at ha3
  cases hm : c.hasHigh with
  | true =>
    rw [hm] at ha3
    obtain ⟨σ4, g4, w4, f4⟩ := hN Q σ3 P r (L ++ [46, 46]) c.high w2 h2 (by simp; omega)
    refine ⟨σ4, fun K1 => ?_, by show Wq E Q σ4 P r (L ++ ([46, 46] ++ numC c.high)); rw [← List.append_assoc]; exact w4, frQ f2 f4⟩
    unfold T55_2
    simp -implicitDefEqProofs only [↓rP, rS, ↓e2, ↓g2, ↓ldK_is ha3, ↓g4]
  | false =>
    rw [hm] at ha3
    obtain ⟨σ4, σ5, e4, g4, w4, f4⟩ := put1 hp w2 [77, 65, 88] (by decide) (by simp; omega)
    rw [← bsX] at e4
    refine ⟨σ5, fun K1 => ?_, by show Wq E Q σ5 P r (L ++ ([46, 46] ++ [77, 65, 88])); rw [← List.append_assoc]; exact w4, frQ f2 f4⟩
    unfold T55_2
    simp -implicitDefEqProofs only [↓rP, rS, ↓e2, ↓g2, ↓ldK_is ha3, ↓e4, ↓g4]
/-- The first part: one number, or the lower bound. -/
theorem bnd_0 (hp : SpPut (D 18)) (hN : SpNum E (D 54)) {Q : Nat → Prop} {σ : H} {P x : Nat} {r : List V} {L : List Nat} {c : ConS} (hx : x = σ.next) (h : Wq E Q σ P r L) (h1 : In64 c.low) (hl : L.length ≤ 28900) :
    ∃ σ1, newB σ (.cells c.c) = σ1 ∧ Wq E (fun b => Q b ∨ b = σ.next) σ1 P r L ∧ Atc σ1 σ.next c.c ∧ Fr Nowhere σ σ1 ∧
    ∃ σ', (∀ K1 K2, T55_0 E D W K1 K2 P 0 c.has c.hasLow c.hasHigh c.more c.low c.high σ = (bif (c.hasLow && c.hasHigh) && eqF c.low c.high then K1 P 0 σ.next 0 σ' else K2 P 0 σ.next 0 σ')) ∧
      Wq E (fun b => Q b ∨ b = σ.next) σ' P r (L ++ (bif (c.hasLow && c.hasHigh) && eqF c.low c.high then numC c.low else (bif c.hasLow then numC c.low else [77, 73, 78]))) ∧ Fr (fun b => ¬ (Q b ∨ b = σ.next)) σ1 σ' := by
  obtain ⟨σ1, e1, w1, a1, f1⟩ := h.hold c.c
  refine ⟨σ1, e1, w1, a1, f1, ?_⟩
  obtain ⟨σ2, g2, w2, f2⟩ := hN _ σ1 P r L c.low w1 h1 (by omega)
  obtain ⟨σ3, σ4, e3, g3, w3, f3⟩ := put1 hp w1 [77, 73, 78] (by decide) (by simp; omega)
  rw [← bsM] at e3
  unfold ConS.c at e1 a1
  cases hL : c.hasLow with
  | false =>
    rw [hL] at e1 a1
    refine ⟨σ4, fun K1 K2 => ?_, w3, f3⟩
    unfold T55_0
    simp -implicitDefEqProofs only [↓rP, rS, nbK, ↓e1, ↓ldK_is a1, ↓e3, ↓g3, Bool.false_and, cond]
  | true =>
    rw [hL] at e1 a1
    cases hH : c.hasHigh with
    | false =>
      rw [hH] at e1 a1
      refine ⟨σ2, fun K1 K2 => ?_, w2, f2⟩
      unfold T55_0
      simp -implicitDefEqProofs only [↓rP, rS, nbK, ↓e1, ↓ldK_is a1, ↓g2, Bool.and_false, Bool.false_and, cond]
    | true =>
      rw [hH] at e1 a1
      cases hQ : eqF c.low c.high with
      | true =>
        refine ⟨σ2, fun K1 K2 => ?_, w2, f2⟩
        unfold T55_0
        simp -implicitDefEqProofs only [↓rP, rS, nbK, ↓e1, ↓ldK_is a1, ↓g2, hQ, Bool.and_true, cond]
      | false =>
        refine ⟨σ2, fun K1 K2 => ?_, w2, f2⟩
        unfold T55_0
        simp -implicitDefEqProofs only [↓rP, rS, nbK, ↓e1, ↓ldK_is a1, ↓g2, hQ, Bool.and_false, cond]
theorem bnd_F (hp : SpPut (D 18)) (hN : SpNum E (D 54)) : SpBnd E (F55 E D W N) := by
  intro Q σ P r L c h h1 h2 hl
  obtain ⟨σ1, e1, w1, a1, f1, σ2, g2, w2, f2⟩ := bnd_0 (W := W) hp hN rfl h h1 (by omega)
  have n1 := (numC_by h1).2
  have a2 := f2.at_ a1 f1.tidy (fun e => e (.inr rfl))
  have q2 := h.q
  show ∃ σ', T55_0 E D W (T55_1 E D W) (T55_2 E D W (T55_1 E D W)) P 0 c.has c.hasLow c.hasHigh c.more c.low c.high σ = _ ∧ _
  rw [g2]
  unfold bndT
  cases hc : (c.hasLow && c.hasHigh) && eqF c.low c.high with
  | true =>
    rw [hc] at w2
    obtain ⟨σ3, g3, w3, f3⟩ := bnd_1 (W := W) hp w2 a2 (by simp only [cond, List.length_append]; omega)
    refine ⟨σ3, g3, ?_, frQ (fr0 f1) (frH (frQ f2 f3))⟩
    have := w3.mono (R := Q) (fun b e => .inl e) q2
    rw [List.append_assoc] at this
    exact this
  | false =>
    rw [hc] at w2
    have hl2 : (bif c.hasLow then numC c.low else [77, 73, 78] : List Nat).length ≤ 21 := by cases c.hasLow <;> simp only [cond, List.length_cons, List.length_nil] <;> omega
    have n2 := (numC_by h2).2
    have hl3 : (bif c.hasHigh then numC c.high else [77, 65, 88] : List Nat).length ≤ 21 := by cases c.hasHigh <;> simp only [cond, List.length_cons, List.length_nil] <;> omega
    obtain ⟨σ3, g3, w3, f3⟩ := bnd_2 (W := W) hp hN w2 (.inr rfl) a2 h2 (by simp only [cond] at hl2 ⊢; rw [List.length_append]; omega)
    have a3 := f3.at_ a2 f2.tidy (fun e => e (.inr rfl))
    obtain ⟨σ4, g4, w4, f4⟩ := bnd_1 (W := W) hp w3 a3 (by simp only [cond] at hl2 hl3 ⊢; rw [List.length_append, List.length_append, List.length_append]; simp only [List.length_cons, List.length_nil]; omega)
    refine ⟨σ4, ?_, ?_, frQ (fr0 f1) (frH (frQ f2 (frQ f3 f4)))⟩
    · show T55_2 E D W (T55_1 E D W) P 0 σ.next 0 σ2 = _
      rw [g3]; exact g4
    · have := w4.mono (R := Q) (fun b e => .inl e) q2
      rw [List.append_assoc, List.append_assoc, ← List.append_assoc (bif false then _ else _)] at this
      exact this
theorem con_F (hp : SpPut (D 18)) (hB : SpBnd E (D 55)) : SpCon E (F32 E D W N) := by
  intro Q σ P r L c a b h h1 h2 hl ha hb la lb
  obtain ⟨σ1, e1, w1, a1, f1⟩ := h.hold c.c
  have q2 := h.q
  show ∃ σ', T32_0 E D W P 0 c.has c.hasLow c.hasHigh c.more c.low c.high (ofN a) (ofN b) σ = _ ∧ _
  unfold conT
  cases hh : c.has with
  | false =>
    unfold ConS.c at e1 a1
    rw [hh] at e1 a1
    refine ⟨σ1, ?_, by show Wq E Q σ1 P r (L ++ []); rw [List.append_nil]; exact w1.mono (fun b e => .inl e) q2, fr0 f1⟩
    unfold T32_0
    simp -implicitDefEqProofs only [↓rP, rA, Nat.reduceEqDiff, Nat.reduceLT, Nat.reduceLeDiff, nbK, ↓e1, ↓ldK_is a1]
  | true =>
    obtain ⟨σ2, σ3, e2, g2, w2, f2⟩ := put1 hp w1 a ha (by omega)
    have a3 := f2.at_ a1 f1.tidy (fun e => e (.inr rfl))
    obtain ⟨σ4, g4, w4, f4⟩ := hB _ σ3 P r (L ++ a) c w2 h1 h2 (by rw [List.length_append]; omega)
    have bl := bndT_len h1 h2
    obtain ⟨σ5, σ6, e5, g5, w5, f5⟩ := put1 hp w4 b hb (by rw [List.length_append, List.length_append]; omega)
    refine ⟨σ6, ?_, ?_, frQ (fr0 f1) (frH (frQ f2 (frQ f4 f5)))⟩
    · unfold ConS.c at e1 a1 a3 g4
      rw [hh] at e1 a1 a3 g4
      unfold T32_0
      simp -implicitDefEqProofs only [↓rP, rA, Nat.reduceEqDiff, Nat.reduceLT, Nat.reduceLeDiff, nbK, ↓e1, ↓ldK_is a1, ↓e2, ↓g2, ↓ldnK_is a3, ↓g4, ↓e5, ↓g5]
    · have := w5.mono (R := Q) (fun b e => .inl e) q2
      rw [List.append_assoc, List.append_assoc] at this
      exact this
end
end
end Go.Proofs.YtabnjnkmdknhaaaGreatDoor
set_option linter.all false
set_option maxRecDepth 100000
namespace Go.Proofs.YtabnjnkmdknhaaaGreatDoor
open Go Go.Og
noncomputable section
theorem ndC_sub : ∀ (ns : List NodeS) (ws : List (V × V)) (i : Nat) (nd : NodeS) (u : V × V), ns[i]? = some nd → ws[i]? = some u → ((ndCs ns ws).drop (i * 16)).take 16 = nd.c u.1 u.2
  | [], _, i, nd, u, h, _ => by simp at h
  | _ :: _, [], i, nd, u, _, h => by simp at h
  | x :: ns, y :: ws, 0, nd, u, h, h' => by simp at h h'; subst h; subst h'; rfl
  | x :: ns, y :: ws, i + 1, nd, u, h, h' => by
    have h : ns[i]? = some nd := by simpa using h
    have h' : ws[i]? = some u := by simpa using h'
    show ((x.c y.1 y.2 ++ ndCs ns ws).drop ((i + 1) * 16)).take 16 = _
    rw [show (i + 1) * 16 = 16 + i * 16 by omega, ← List.drop_drop, show (x.c y.1 y.2 ++ ndCs ns ws).drop 16 = ndCs ns ws from rfl]
    exact ndC_sub ns ws i nd u h h'
section
variable {E : List (Nat × Blk)}
theorem src_at {σ : H} {esz n i : Nat} {v : V} {m c : List V} (h : Src σ esz n v m) (hi : i < n) (hc : (m.drop (i * esz)).take esz = c) (hz : 0 < esz) (κ : List V → Ans) : iaddrSK esz v (Int.ofNat i) (fun b o => ldnK E σ b o esz κ) = κ c := by
  rcases h with ⟨h0, _, _⟩ | ⟨b, o, cp, L, rfl, ha, hle, hm⟩
  · omega
  · rw [iaddrSK_lt hi]
    show ldnK E σ b (o + i * esz) esz κ = _
    have hmul : i * esz + esz ≤ n * esz := by rw [← Nat.succ_mul]; exact Nat.mul_le_mul_right _ hi
    rw [ldnK_is ha, subK_of (by omega)]
    rw [hm, List.drop_take, List.take_take, Nat.min_eq_left (by omega), List.drop_drop] at hc
    rw [hc]
theorem src_ld {σ : H} {n i : Nat} {v w : V} {m : List V} (h : Src σ 1 n v m) (hi : i < n) (hc : m[i]? = some w) (κ : V → Ans) : iaddrSK 1 v (Int.ofNat i) (fun b o => ldK E σ b o κ) = κ w := by
  rcases h with ⟨h0, _, _⟩ | ⟨b, o, cp, L, rfl, ha, hle, hm⟩
  · omega
  · rw [iaddrSK_lt hi]
    show ldK E σ b (o + i * 1) κ = _
    have : L[o + i * 1]? = some w := by
      rw [hm, List.getElem?_take_of_lt (by omega), List.getElem?_drop] at hc
      rw [Nat.mul_one]; exact hc
    rw [ldK_is ha, nthK_of (by rw [nthF_eq]; exact this)]
end
/-- A module that the printer looks at, in blocks that are held. -/
structure MdQ (Q : Nat → Prop) (σ : H) (m : ModS) (nv tv dv : V) : Prop where
  n : Src σ 1 m.az.length nv (stC m.az)
  t : Src σ 1 m.ks.length tv (ksC m.ks)
  d : ∃ ws : List (V × V), Src σ 16 m.ns.length dv (ndCs m.ns ws) ∧ ws.length = m.ns.length ∧ ∀ u ∈ ws, u.1.one = true ∧ u.2.one = true
  nq : ∀ b, Names nv b → Q b
  tq : ∀ b, Names tv b → Q b
  dq : ∀ b, Names dv b → Q b
section
variable {Q R : Nat → Prop} {σ σ' : H} {m : ModS} {nv tv dv : V}
theorem MdQ.fr (h : MdQ Q σ m nv tv dv) (f : Fr (fun b => ¬ Q b) σ σ') (ht : Tidy σ) : MdQ Q σ' m nv tv dv := by
  obtain ⟨ws, h1, h2, h3⟩ := h.d
  exact ⟨h.n.fr f ht (fun b e q => q (h.nq b e)), h.t.fr f ht (fun b e q => q (h.tq b e)), ⟨ws, h1.fr f ht (fun b e q => q (h.dq b e)), h2, h3⟩, h.nq, h.tq, h.dq⟩
theorem MdQ.mono (h : MdQ Q σ m nv tv dv) (hR : ∀ b, Q b → R b) : MdQ R σ m nv tv dv := ⟨h.n, h.t, h.d, fun b e => hR b (h.nq b e), fun b e => hR b (h.tq b e), fun b e => hR b (h.dq b e)⟩
theorem MdQ.nd (h : MdQ Q σ m nv tv dv) {k : Nat} {nd : NodeS} (hk : m.ns[k]? = some nd) : ∃ iv fv, iv.one = true ∧ fv.one = true ∧ ∀ (E : List (Nat × Blk)) (κ : List V → Ans), iaddrSK 16 dv (Int.ofNat k) (fun b o => ldnK E σ b o 16 κ) = κ (nd.c iv fv) := by
  obtain ⟨ws, h1, h2, h3⟩ := h.d
  have hlt : k < m.ns.length := (List.getElem?_eq_some_iff.1 hk).1
  obtain ⟨u, hu⟩ : ∃ u, ws[k]? = some u := ⟨ws[k], List.getElem?_eq_getElem (by omega)⟩
  obtain ⟨a, b⟩ := h3 u (List.mem_of_getElem? hu)
  exact ⟨u.1, u.2, a, b, fun E κ => src_at (E := E) h1 hlt (ndC_sub _ _ _ _ _ hk hu) (by decide) κ⟩
theorem MdS.q (h : MdS σ m nv tv dv) (ht : Tidy σ) (hQ : ∀ b, b < σ.next → Q b) : MdQ Q σ m nv tv dv := by
  obtain ⟨ws, h1, h2, h3⟩ := h.d
  refine ⟨h.n.src, h.t, ⟨ws, h1, h2, fun u hu => ?_⟩, fun b e => hQ b (h.n.lt ht e), fun b e => hQ b (h.t.lt ht e), fun b e => hQ b (h1.lt ht e)⟩
  obtain ⟨k, hk, e⟩ := List.mem_iff_getElem.1 hu
  have hk2 : k < m.ns.length := by omega
  obtain ⟨x1, x2⟩ := h3 k m.ns[k] u (List.getElem?_eq_getElem hk2) (by rw [List.getElem?_eq_getElem hk, e])
  exact ⟨x1.one, x2.one⟩
end
/-- A block beyond the old end is held besides. -/
theorem Wq.ext {E : List (Nat × Blk)} {Q : Nat → Prop} {σ σ' : H} {P X : Nat} {r : List V} {L : List Nat} (h : Wq E Q σ P r L) (f : Fr Nowhere σ σ') (h1 : σ.next ≤ X) (h2 : X < σ'.next) : Wq E (fun b => Q b ∨ b = X) σ' P r L := by
  obtain ⟨⟨ht, hP, hq, u, ha, hd, hu⟩, hp, h3⟩ := h
  have lt := ha.lt ht
  have le := f.le
  exact ⟨⟨f.tidy, fun e => e.elim hP (fun e => by omega), fun b e => e.elim (fun e => by have := hq b e; omega) (fun e => by omega), u, f.at_ ha ht (fun e => e), hd.fr f ht (fun _ _ e => e), fun b hb => ⟨fun e => e.elim (hu b hb).1 (fun e => by have := hd.lt ht hb; omega), (hu b hb).2⟩⟩, hp.fr f (fun e => e), .inl h3⟩
/-! ### the text of a type -/
def pNd (m : ModS) : Nat → Nat → Option (List Nat)
  | 0, _ => none
  | k + 1, i => (m.ns[i]?).bind fun nd => match nd.mHas with
    | true => none
    | false => match nd.kind with
      | 2 => some ([73, 78, 84, 69, 71, 69, 82] ++ conT nd.con [32, 40] [41])
      | 4 => some [78, 85, 76, 76]
      | 10 => (pNd m k nd.of_).map fun t => [83, 69, 81, 85, 69, 78, 67, 69, 32] ++ (conT nd.con [40, 83, 73, 90, 69, 32, 40] [41, 41, 32] ++ ([79, 70, 32] ++ t))
      | _ => none
def SpNdP (E : List (Nat × Blk)) (m : ModS) (k : Nat) (F : List V → H → Ans) : Prop := ∀ (Q : Nat → Prop) (σ : H) (P : Nat) (L : List Nat) (nv tv dv : V) (i : Nat) (d : Int) (t : List Nat), Wq E Q σ P (mdC m nv tv dv) L → MdQ Q σ m nv tv dv → pNd m k i = some t → L.length + t.length ≤ 20000 →
  ∃ σ', F [.ptr P 0, .int .i64 (Int.ofNat i), .int .i64 d] σ = some (.tup [], σ') ∧ Wq E Q σ' P (mdC m nv tv dv) (L ++ t) ∧ Fr (fun b => ¬ Q b) σ σ'
def ConI (m : ModS) : Prop := ∀ nd ∈ m.ns, In64 nd.con.low ∧ In64 nd.con.high
theorem bsI : BS.mk 7 23157120498421321 = ofN [73, 78, 84, 69, 71, 69, 82] := by decide +kernel
theorem bsN : BS.mk 4 1280070990 = ofN [78, 85, 76, 76] := by decide +kernel
theorem bsS : BS.mk 9 595286729230453392723 = ofN [83, 69, 81, 85, 69, 78, 67, 69, 32] := by decide +kernel
theorem bsO : BS.mk 3 2115151 = ofN [79, 70, 32] := by decide +kernel
theorem bs1 : BS.mk 2 10272 = ofN [32, 40] := by decide +kernel
theorem bs2 : BS.mk 1 41 = ofN [41] := by decide +kernel
theorem bs3 : BS.mk 7 11294481308013352 = ofN [40, 83, 73, 90, 69, 32, 40] := by decide +kernel
theorem bs4 : BS.mk 3 2107689 = ofN [41, 41, 32] := by decide +kernel
theorem sub_23 {x0 x1 x2 x3 x4 x5 x6 x7 x8 x9 x10 x11 x12 x13 x14 x15 : V} {κ : List V → Ans} : subK [x0, x1, x2, x3, x4, x5, x6, x7, x8, x9, x10, x11, x12, x13, x14, x15] 2 3 κ = κ [x2, x3, x4] := rfl
theorem sub_56 {x0 x1 x2 x3 x4 x5 x6 x7 x8 x9 x10 x11 x12 x13 x14 x15 : V} {κ : List V → Ans} : subK [x0, x1, x2, x3, x4, x5, x6, x7, x8, x9, x10, x11, x12, x13, x14, x15] 5 6 κ = κ [x5, x6, x7, x8, x9, x10] := rfl
section
variable {E : List (Nat × Blk)} {D : Den} {W : DrawFn} {N : Nat}
/-- The node is put aside; its mark. -/
theorem nd_head {m : ModS} (hM : SpMark (D 31)) {Q : Nat → Prop} {σ : H} {P : Nat} {L : List Nat} {nv tv dv : V} {i : Nat} {nd : NodeS} (h : Wq E Q σ P (mdC m nv tv dv) L) (hq : MdQ Q σ m nv tv dv) (hi : m.ns[i]? = some nd) (hm : nd.mHas = false) :
    ∃ X iv fv σ', X = σ.next ∧ Wq E (fun b => Q b ∨ b = X) σ' P (mdC m nv tv dv) L ∧ Atc σ' X (nd.c iv fv) ∧ Fr Nowhere σ σ' ∧
    ∃ σ1 σ2, newB σ (.cells [.int .i64 (Int.ofNat 0), .str ⟨0, 0⟩, .bool false, .int .i64 (Int.ofNat 0), .int .i64 (Int.ofNat 0), .bool false, .bool false, .bool false, .bool false, .int .i64 (Int.ofNat 0), .int .i64 (Int.ofNat 0), V.nils, V.nils, .int .i64 (Int.ofNat 0), .bool false, .int .i64 (Int.ofNat 0)]) = σ1 ∧
      (∀ κ : H → Ans, stK 16 σ.next 0 (.agg (nd.c iv fv)) σ1 κ = κ σ2) ∧ Atc σ2 σ.next (nd.c iv fv) ∧ D 31 [.ptr P 0, .agg [.bool false, .int .i64 nd.mNum, .int .i64 (Int.ofNat nd.mMode)]] σ2 = some (.tup [], σ') ∧
      (∀ (E : List (Nat × Blk)) (κ : List V → Ans), iaddrSK 16 dv (Int.ofNat i) (fun b o => ldnK E σ b o 16 κ) = κ (nd.c iv fv)) := by
  obtain ⟨iv, fv, oi, of, rd⟩ := hq.nd hi
  obtain ⟨σ1, e1, f1, a1, n1⟩ := mkN h.w.1 [.int .i64 (Int.ofNat 0), .str ⟨0, 0⟩, .bool false, .int .i64 (Int.ofNat 0), .int .i64 (Int.ofNat 0), .bool false, .bool false, .bool false, .bool false, .int .i64 (Int.ofNat 0), .int .i64 (Int.ofNat 0), V.nils, V.nils, .int .i64 (Int.ofNat 0), .bool false, .int .i64 (Int.ofNat 0)]
  obtain ⟨σ2, e2, f2, a2⟩ := mkS f1.tidy a1 (nd.c iv fv)
  have g2 : ∀ κ : H → Ans, stK 16 σ.next 0 (.agg (nd.c iv fv)) σ1 κ = κ σ2 := fun κ => by
    rw [stK_at a1 (by
      rw [cells_agg]
      unfold NodeS.c
      simp only [allOne_cons, allOne_nil, one_int, one_str, one_bool, oi, of, Bool.and_true]; rfl)]
    show κ (setF σ1 σ.next (.cells (nd.c iv fv))) = _
    rw [e2]
  have f02 : Fr Nowhere σ σ2 := f1.trans f2 fun b hb e => by omega
  obtain ⟨σ3, g3, f3⟩ := hM σ2 P nd.mNum (Int.ofNat nd.mMode) f2.tidy
  have f03 := f02.trans f3 fun _ _ e => e
  have n2 : σ2.next = σ.next + 1 := by rw [← e2]; exact n1
  exact ⟨σ.next, iv, fv, σ3, rfl, h.ext f03 (Nat.le_refl _) (by have := f3.le; omega), f3.at_ a2 f2.tidy (fun e => e), f03, σ1, σ2, e1, g2, a2, g3, rd⟩
theorem node_F {m : ModS} {k : Nat} (hI : ConI m) (hM : SpMark (D 31)) (hp : SpPut (D 18)) (hC : SpCon E (D 32)) (hR : SpNdP E m k (D 19)) : SpNdP E m (k + 1) (F19 E D W N) := by
  intro Q σ P L nv tv dv i d t h hq ht hl
  obtain ⟨nd, hi, ht⟩ := Option.bind_eq_some_iff.1 ht
  have hlt : i < m.ns.length := (List.getElem?_eq_some_iff.1 hi).1
  obtain ⟨c1, c2⟩ := hI nd (List.mem_of_getElem? hi)
  cases hm : nd.mHas with
  | true => rw [hm] at ht; cases ht
  | false =>
  rw [hm] at ht
  obtain ⟨X, iv, fv, σ3, hX, w3, a3, f3, σ1, σ2, e1, g2, a2, g3, rd⟩ := nd_head hM h hq hi hm
  have hp0 := h.w
  obtain ⟨_, _, _, u, ha, _, _⟩ := hp0
  unfold mdC at ha
  have sl : ∀ κ : Nat → Ans, slenK dv κ = κ m.ns.length := fun κ => by
    obtain ⟨ws, x1, _⟩ := hq.d
    exact x1.slen
  have dlt : decide (m.ns.length ≤ i) = false := decide_eq_false (by omega)
  have rdE := rd E
  have hq3 := (hq.fr (fr0 f3) h.w.1).mono (R := fun b => Q b ∨ b = X) (fun b e => .inl e)
  have q2 := h.q
  show ∃ σ', T19_0 E D W P 0 (Int.ofNat i) d σ = _ ∧ _
  have ht : (match nd.kind with
      | 2 => some ([73, 78, 84, 69, 71, 69, 82] ++ conT nd.con [32, 40] [41])
      | 4 => some [78, 85, 76, 76]
      | 10 => (pNd m k nd.of_).map fun t => [83, 69, 81, 85, 69, 78, 67, 69, 32] ++ (conT nd.con [40, 83, 73, 90, 69, 32, 40] [41, 41, 32] ++ ([79, 70, 32] ++ t))
      | _ => none : Option (List Nat)) = some t := ht
  unfold NodeS.c at a3 a2 g2 rdE
  rw [hm] at a3 a2 g2 rdE
  subst hX
  split at ht
  · rename_i hk
    cases ht
    rw [hk] at a3 a2 g2 rdE
    obtain ⟨σ4, σ5, e4, g4, w5, f5⟩ := put1 hp w3 [73, 78, 84, 69, 71, 69, 82] (by decide) (by simp at hl ⊢; omega)
    rw [← bsI] at e4
    have a5 := f5.at_ a3 f3.tidy (fun e => e (.inr rfl))
    obtain ⟨σ6, g6, w6, f6⟩ := hC _ σ5 P _ _ nd.con [32, 40] [41] w5 c1 c2 (by simp at hl ⊢; omega) (by decide) (by decide) (by decide) (by decide)
    rw [← bs1, ← bs2] at g6
    unfold ConS.c at g6
    refine ⟨σ6, ?_, by rw [← List.append_assoc]; exact w6.mono (fun b e => .inl e) q2, frQ (fr0 f3) (frH (frQ f5 f6))⟩
    unfold T19_0
    simp -implicitDefEqProofs only [↓rP, rA, Nat.reduceEqDiff, Nat.reduceLT, Nat.reduceLeDiff, ↓ldK_is ha, Nat.not_lt_zero, ↓sl, dlt, ↓rdE, ↓e1, ↓g2, ↓ldnK_is a2, ↓sub_23, ↓sub_56, ↓ldK_is a2, ↓g3, ↓ldK_is a3, ↓e4, ↓g4, ↓ldnK_is a5, ↓g6]
  · rename_i hk
    cases ht
    rw [hk] at a3 a2 g2 rdE
    obtain ⟨σ4, σ5, e4, g4, w5, f5⟩ := put1 hp w3 [78, 85, 76, 76] (by decide) (by simp at hl ⊢; omega)
    rw [← bsN] at e4
    refine ⟨σ5, ?_, w5.mono (fun b e => .inl e) q2, frQ (fr0 f3) (frH f5)⟩
    unfold T19_0
    simp -implicitDefEqProofs only [↓rP, rA, Nat.reduceEqDiff, Nat.reduceLT, Nat.reduceLeDiff, ↓ldK_is ha, Nat.not_lt_zero, ↓sl, dlt, ↓rdE, ↓e1, ↓g2, ↓ldnK_is a2, ↓sub_23, ↓sub_56, ↓ldK_is a2, ↓g3, ↓ldK_is a3, ↓e4, ↓g4]
  · rename_i hk
    obtain ⟨t0, ht0, rfl⟩ := Option.map_eq_some_iff.1 ht
    rw [hk] at a3 a2 g2 rdE
    obtain ⟨σ4, σ5, e4, g4, w5, f5⟩ := put1 hp w3 [83, 69, 81, 85, 69, 78, 67, 69, 32] (by decide) (by simp at hl ⊢; omega)
    rw [← bsS] at e4
    have a5 := f5.at_ a3 f3.tidy (fun e => e (.inr rfl))
    obtain ⟨σ6, g6, w6, f6⟩ := hC _ σ5 P _ _ nd.con [40, 83, 73, 90, 69, 32, 40] [41, 41, 32] w5 c1 c2 (by simp at hl ⊢; omega) (by decide) (by decide) (by decide) (by decide)
    rw [← bs3, ← bs4] at g6
    unfold ConS.c at g6
    obtain ⟨σ7, σ8, e7, g7, w8, f8⟩ := put1 hp w6 [79, 70, 32] (by decide) (by simp at hl ⊢; omega)
    rw [← bsO] at e7
    have f38 := frQ f5 (frQ f6 f8)
    have a8 := f38.at_ a3 f3.tidy (fun e => e (.inr rfl))
    obtain ⟨σ9, g9, w9, f9⟩ := hR _ σ8 P _ nv tv dv nd.of_ (addF .i64 d (Int.ofNat 1)) t0 w8 (hq3.fr f38 f3.tidy) ht0 (by simp at hl ⊢; omega)
    refine ⟨σ9, ?_, ?_, frQ (fr0 f3) (frH (frQ f38 f9))⟩
    · unfold T19_0
      simp -implicitDefEqProofs only [↓rP, rA, Nat.reduceEqDiff, Nat.reduceLT, Nat.reduceLeDiff, ↓ldK_is ha, Nat.not_lt_zero, ↓sl, dlt, ↓rdE, ↓e1, ↓g2, ↓ldnK_is a2, ↓sub_23, ↓sub_56, ↓ldK_is a2, ↓g3, ↓ldK_is a3, ↓e4, ↓g4, ↓ldnK_is a5, ↓g6, ↓e7, ↓g7, ↓ldK_is a8, ↓g9]
    · have := w9.mono (R := Q) (fun b e => .inl e) q2
      rw [List.append_assoc, List.append_assoc, List.append_assoc] at this
      exact this
  · cases ht
end
end
end Go.Proofs.YtabnjnkmdknhaaaGreatDoor
set_option linter.all false
set_option maxRecDepth 100000
namespace Go.Proofs.YtabnjnkmdknhaaaGreatDoor
open Go Go.Og
noncomputable section
def asgT (m : ModS) (k : Nat) : List (List Nat) → List Nat → Option (List Nat)
  | w :: az, i :: ks => (pNd m k i).bind fun t => (asgT m k az ks).map fun r => ([10] ++ (w ++ ([32, 58, 58, 61, 32] ++ []))) ++ (t ++ r)
  | [], [] => some []
  | _, _ => none
def modH (m : ModS) : List Nat := m.nm ++ ([32, 68, 69, 70, 73, 78, 73, 84, 73, 79, 78, 83, 32] ++ ([69, 88, 80, 76, 73, 67, 73, 84, 32, 84, 65, 71, 83, 32] ++ ([58, 58, 61, 32, 66, 69, 71, 73, 78] ++ [])))
def modT (m : ModS) (k : Nat) : Option (List Nat) := (asgT m k m.az m.ks).map fun t => modH m ++ (t ++ [10, 69, 78, 68, 10])
theorem bh1 : BS.mk 13 2561083126905198320505063818272 = ofN [32, 68, 69, 70, 73, 78, 73, 84, 73, 79, 78, 83, 32] := by decide +kernel
theorem bh2 : BS.mk 14 655635097218688137868315485820997 = ofN [69, 88, 80, 76, 73, 67, 73, 84, 32, 84, 65, 71, 83, 32] := by decide +kernel
theorem bh3 : BS.mk 9 1444126302987771263546 = ofN [58, 58, 61, 32, 66, 69, 71, 73, 78] := by decide +kernel
theorem bh4 : BS.mk 1 10 = ofN [10] := by decide +kernel
theorem bh5 : BS.mk 5 138466179616 = ofN [32, 58, 58, 61, 32] := by decide +kernel
theorem bh6 : BS.mk 5 44095653130 = ofN [10, 69, 78, 68, 10] := by decide +kernel
def SpTagg (F : List V → H → Ans) : Prop := ∀ σ : H, F [.int .i64 (Int.ofNat 0)] σ = some (.str (BS.mk 14 655635097218688137868315485820997), σ)
structure PrOk (m : ModS) : Prop where
  tg : m.tg = 0
  nm : ByT m.nm ∧ m.nm.length ≤ 100
  az : ∀ w ∈ m.az, ByT w
  n : m.az.length ≤ 100 ∧ m.ks.length = m.az.length
  c : ConI m
def SpPrint (E : List (Nat × Blk)) (m : ModS) (k : Nat) (F : List V → H → Ans) : Prop := ∀ (σ : H) (nv tv dv : V) (t : List Nat), Tidy σ → P10 E σ → MdS σ m nv tv dv → modT m k = some t → t.length ≤ 20000 →
  ∃ σ', F [.agg (mdC m nv tv dv)] σ = some (.str (ofN t), σ') ∧ Fr Nowhere σ σ'
section
variable {E : List (Nat × Blk)} {D : Den} {N : Nat}
theorem tagg_F {W : DrawFn} : SpTagg (F17 E D W N) := fun σ => rfl
/-- The region that puts the head. -/
theorem pr_reg (hp : SpPut (D 18)) {Q : Nat → Prop} {σ : H} {P M : Nat} {r c : List V} {nm : List Nat} (h : Wp Q σ P r []) (hM : Q M) (ha : Atc σ M (.str (ofN nm) :: c)) (hb : ByT nm) (hl : nm.length ≤ 100) :
    ∃ env σ', drawW E D G7_0 H7_0 [(1, .ptr M 0), (3, .ptr P 0), (4, .str (BS.mk 14 655635097218688137868315485820997))] σ = some (env, σ') ∧ Go.Og.look env 1 = some (.ptr M 0) ∧ Go.Og.look env 3 = some (.ptr P 0) ∧ Wp Q σ' P r ([nm, [32, 68, 69, 70, 73, 78, 73, 84, 73, 79, 78, 83, 32], [69, 88, 80, 76, 73, 67, 73, 84, 32, 84, 65, 71, 83, 32], [58, 58, 61, 32, 66, 69, 71, 73, 78]].flatten) ∧ Fr (fun b => ¬ Q b) σ σ' := by
  obtain ⟨ht, hP, hq, u, hu, hd, hn⟩ := h
  have lP := hu.lt ht
  let z : List V := txC [nm, [32, 68, 69, 70, 73, 78, 73, 84, 73, 79, 78, 83, 32], [69, 88, 80, 76, 73, 67, 73, 84, 32, 84, 65, 71, 83, 32], [58, 58, 61, 32, 66, 69, 71, 73, 78]]
  let σc : H := ⟨σ.next + 8, (σ.next + 6, .cells z) :: σ.bl⟩
  have fb : Fr Nowhere σ σc := ⟨fun c hc => by
    have hc : σ.next + 8 ≤ c := hc
    show lookF ((σ.next + 6, _) :: σ.bl) c = none
    rw [lookF_cons, if_neg (by simp only []; omega)]; exact ht c (by omega), Nat.le_add_right _ _, fun c hc _ => by
    show lookF ((σ.next + 6, _) :: σ.bl) c = _
    rw [lookF_cons, if_neg (by simp only []; omega)]⟩
  have ab : Atc σc (σ.next + 6) z := by
    show lookF ((σ.next + 6, _) :: σ.bl) _ = _
    rw [lookF_cons, if_pos rfl]
  let Q' : Nat → Prop := fun b => Q b ∨ (σ.next ≤ b ∧ b < σ.next + 8)
  have hW : Wp Q' σc P r [] := ⟨fb.tidy, fun e => e.elim hP (fun e => by omega), fun b e => e.elim (fun e => by have := hq b e; show b < σ.next + 8; omega) (fun e => e.2), u, fb.at_ hu ht (fun e => e), hd.fr fb ht (fun _ _ e => e), fun b hb => ⟨fun e => e.elim (hn b hb).1 (fun e => by have := hd.lt ht hb; omega), (hn b hb).2⟩⟩
  obtain ⟨σ2, g2, w2, f2⟩ := hp Q' σc P (σ.next + 6) r [] [nm, [32, 68, 69, 70, 73, 78, 73, 84, 73, 79, 78, 83, 32], [69, 88, 80, 76, 73, 67, 73, 84, 32, 84, 65, 71, 83, 32], [58, 58, 61, 32, 66, 69, 71, 73, 78]] hW (.inr ⟨by omega, by omega⟩) ab (fun p hp => by
    simp only [List.mem_cons, List.not_mem_nil, or_false] at hp
    rcases hp with rfl | rfl | rfl | rfl
    · exact hb
    · decide
    · decide
    · decide) (by simp; omega) (by simp)
  have ez : z = [.str (ofN nm), .str ⟨13, 2561083126905198320505063818272⟩, .str (BS.mk 14 655635097218688137868315485820997), .str ⟨9, 1444126302987771263546⟩] := by
    show [V.str (ofN nm), V.str (ofN _), V.str (ofN _), V.str (ofN _)] = _
    rw [← bh1, ← bh2, ← bh3]
  have go : Goes E D σ 8 0 (fun b => ¬ Q b) G7_0 H7_0 ⟨[(1, .ptr M 0), (3, .ptr P 0), (4, .str (BS.mk 14 655635097218688137868315485820997))], σ.next + 8, [σ.bl], [], 0, []⟩ _ σ2 :=
    go_p (.ptr P 0) rfl rfl <|
    go_p (.ptr P 0) rfl rfl <|
    go_p (.ptr P 0) rfl rfl <|
    go_p (.ptr M 0) rfl rfl <|
    go_l (.str (ofN nm)) (go_start ht) rfl (old_ld1 (b := M) (off := 0) rfl ha rfl ht (fun e => e hM) (beq_self _ rfl)) fun _ r1 =>
    go_p (.str (BS.mk 14 655635097218688137868315485820997)) rfl rfl <|
    go_a (.sl (σ.next + 6) 0 4 (.ex 4)) (.cells z) 64 r1 rfl (by decide) (by decide) (by rw [ez]; rfl) fun _ r2 =>
    go_k (.tup []) r2 rfl (by decide) f2 (fun b _ e q => e (.inl q)) (fun b e h1 h2 => e (.inr ⟨h1, h2⟩)) g2 fun _ _ _ r3 =>
    go_nil r3
  obtain ⟨d1, d2⟩ := go_draw (ops := G7_0) go
  exact ⟨_, σ2, d1, rfl, rfl, w2.mono fun b e => .inl e, d2⟩
theorem Wq.at_ {Q : Nat → Prop} {σ : H} {P : Nat} {r : List V} {L : List Nat} (h : Wq E Q σ P r L) : ∃ u, Atc σ P (u :: .bool false :: r) ∧ Src σ 1 L.length u (u8s (nI L)) := by
  obtain ⟨_, _, _, u, ha, hd, _⟩ := h.w
  exact ⟨u, ha, hd.src⟩
/-- The end. -/
theorem pr_end {W : DrawFn} (hp : SpPut (D 18)) {Q : Nat → Prop} {σ : H} {P : Nat} {r : List V} {L : List Nat} (h : Wq E Q σ P r L) (hb : ByT L) (hl : L.length ≤ 29000) :
    ∃ σ', T7_1 E D W P 0 σ = some (.str (ofN (L ++ [10, 69, 78, 68, 10])), σ') ∧ Fr (fun b => ¬ Q b) σ σ' := by
  obtain ⟨σ1, σ2, e1, g1, w2, f2⟩ := put1 hp h [10, 69, 78, 68, 10] (by decide) (by simp; omega)
  rw [← bh6] at e1
  obtain ⟨u, ha, hs⟩ := w2.at_
  refine ⟨σ2, ?_, f2⟩
  have hby : ByT (L ++ [10, 69, 78, 68, 10]) := fun c hc => by
    rcases List.mem_append.1 hc with hc | hc
    · exact hb c hc
    · exact (by decide : ByT [10, 69, 78, 68, 10]) c hc
  have ts : ∀ κ : BS → Ans, toStrK E σ2 u κ = κ (ofN (L ++ [10, 69, 78, 68, 10])) := fun κ => by
    have hs' : By σ2 u (nI (L ++ [10, 69, 78, 68, 10])) := by
      unfold By
      rw [show (nI (L ++ [10, 69, 78, 68, 10])).length = (L ++ [10, 69, 78, 68, 10]).length by unfold nI; rw [List.length_map]]
      exact hs
    rw [hs'.str, ofN_eq hby]
    unfold nI
    rw [List.map_map]; rfl
  unfold T7_1
  simp -implicitDefEqProofs only [↓rP, rS, ↓e1, ↓g1, ↓ldK_is ha, ts]
/-- The types, one by one. -/
theorem pr_L {m : ModS} {k M P n : Nat} {nv tv dv : V} {Q : Nat → Prop} (hp : SpPut (D 18)) (hD : SpNdP E m k (D 19)) (hM : Q M) (hn : n = m.az.length) (hm : PrOk m) {W : DrawFn} {K1 : Nat → Nat → H → Ans} : ∀ (az : List (List Nat)) (ks : List Nat) (pa : List (List Nat)) (pk : List Nat) (j i : Nat) (L t : List Nat) (σ : H),
    Wq E Q σ P (mdC m nv tv dv) L → MdQ Q σ m nv tv dv → Atc σ M (mdC m nv tv dv) → m.az = pa ++ az → m.ks = pk ++ ks → pa.length = i → pk.length = i → asgT m k az ks = some t → L.length + t.length ≤ 20000 → az.length < j →
    ∃ σ', (Nat.rec (fun _ _ _ _ _ _ _ _ => none) (fun _ ih => T7_2 E D W K1 ih) j : Nat → Nat → Nat → Nat → V → Int → Int → H → Ans) M 0 P 0 nv (Int.ofNat n) (Int.ofNat i) σ = K1 P 0 σ' ∧ Wq E Q σ' P (mdC m nv tv dv) (L ++ t) ∧ Fr (fun b => ¬ Q b) σ σ' := by
  intro az
  induction az with
  | nil =>
    intro ks pa pk j i L t σ h hq ha ea ek li lk ht hl hj
    obtain ⟨j, rfl⟩ : ∃ i, j = i + 1 := ⟨j - 1, by simp at hj; omega⟩
    cases ks with
    | cons x ks => cases ht
    | nil =>
    cases ht
    rw [List.append_nil] at ea
    refine ⟨σ, ?_, by rw [List.append_nil]; exact h, Fr.refl h.w.1⟩
    show T7_2 E D W K1 _ M 0 P 0 nv (Int.ofNat n) (Int.ofNat i) σ = _
    unfold T7_2
    rw [ltF_nat, decide_eq_false (by rw [hn, ea]; omega), condK_false]
  | cons w az ih =>
    intro ks pa pk j i L t σ h hq ha ea ek li lk ht hl hj
    rw [List.length_cons] at hj
    obtain ⟨j, rfl⟩ : ∃ i, j = i + 1 := ⟨j - 1, by omega⟩
    cases ks with
    | nil => cases ht
    | cons x ks =>
    obtain ⟨t0, h0, ht⟩ := Option.bind_eq_some_iff.1 ht
    obtain ⟨t1, h1, rfl⟩ := Option.map_eq_some_iff.1 ht
    have hin : i < n := by rw [hn, ea, List.length_append, List.length_cons]; omega
    have hik : i < m.ks.length := by rw [ek, List.length_append, List.length_cons]; omega
    have hbw := hm.az w (by rw [ea]; simp)
    have hnn := hm.n
    have fl : [[10], w, [32, 58, 58, 61, 32]].flatten = [10] ++ (w ++ ([32, 58, 58, 61, 32] ++ [])) := by simp
    obtain ⟨σ1, σ2, e1, g1, w2, f2⟩ := hp.new h.w [[10], w, [32, 58, 58, 61, 32]] (fun p hp => by
      simp only [List.mem_cons, List.not_mem_nil, or_false] at hp
      rcases hp with rfl | rfl | rfl
      · decide
      · exact hbw
      · decide) (by rw [fl]; simp at hl ⊢; omega) (by simp)
    rw [fl] at w2
    have w2 := h.step w2 f2
    have e1 : newB σ (.cells [.str (BS.mk 1 10), .str (ofN w), .str (BS.mk 5 138466179616)]) = σ1 := by rw [bh4, bh5]; exact e1
    have g1 : D 18 [.ptr P 0, .sl σ.next 0 3 (.ex 3)] σ1 = some (.tup [], σ2) := g1
    have hq2 := hq.fr f2 h.w.1
    have ha2 := f2.at_ ha h.w.1 (fun e => e hM)
    obtain ⟨σ3, g3, w3, f3⟩ := hD Q σ2 P _ nv tv dv x (Int.ofNat 0) t0 w2 hq2 h0 (by simp at hl ⊢; omega)
    have hq3 := hq2.fr f3 w2.w.1
    have ha3 := f3.at_ ha2 w2.w.1 (fun e => e hM)
    obtain ⟨σ4, g4, w4, f4⟩ := ih ks (pa ++ [w]) (pk ++ [x]) j (i + 1) _ t1 σ3 w3 hq3 ha3 (by rw [ea]; simp) (by rw [ek]; simp) (by simp [li]) (by simp [lk]) h1 (by simp at hl ⊢; omega) (by omega)
    refine ⟨σ4, ?_, by
      have e : L ++ ([10] ++ (w ++ ([32, 58, 58, 61, 32] ++ [])) ++ (t0 ++ t1)) = L ++ ([10] ++ (w ++ ([32, 58, 58, 61, 32] ++ []))) ++ t0 ++ t1 := by simp only [List.append_assoc]
      rw [e]; exact w4, frQ f2 (frQ f3 f4)⟩
    obtain ⟨u, hu, _⟩ := h.at_
    have rn : ∀ κ, iaddrSK 1 nv (Int.ofNat i) (fun b o => ldK E σ b o κ) = κ (.str (ofN w)) := fun κ => src_ld hq.n (by omega) (by
      unfold stC
      rw [List.getElem?_map, ea, List.getElem?_append_right (by omega), li, Nat.sub_self]; rfl) κ
    have rt : ∀ κ, iaddrSK 1 tv (Int.ofNat i) (fun b o => ldK E σ2 b o κ) = κ (.int .i64 (Int.ofNat x)) := fun κ => src_ld hq2.t hik (by
      unfold ksC
      rw [List.getElem?_map, ek, List.getElem?_append_right (by omega), lk, Nat.sub_self]; rfl) κ
    have dk : decide (i < n) = true := decide_eq_true hin
    have s1 : addF .i64 (Int.ofNat i) (Int.ofNat 1) = Int.ofNat (i + 1) := addF_nat (by omega)
    unfold mdC at ha2
    have key : ∀ R2, T7_2 E D W K1 R2 M 0 P 0 nv (Int.ofNat n) (Int.ofNat i) σ = R2 M 0 P 0 nv (Int.ofNat n) (Int.ofNat (i + 1)) σ3 := by
      intro R2
      unfold T7_2
      simp -implicitDefEqProofs only [↓rP, rA, Nat.reduceEqDiff, Nat.reduceLT, Nat.reduceLeDiff, dk, ↓rn, ↓ldK_is hu, ↓e1, ↓g1, ↓ldK_is ha2, ↓rt, ↓g3, s1]
    show T7_2 E D W K1 _ M 0 P 0 nv (Int.ofNat n) (Int.ofNat i) σ = _
    rw [key]; exact g4
theorem asgT_by {m : ModS} {k : Nat} (hN : ∀ i t, pNd m k i = some t → ByT t) : ∀ (az : List (List Nat)) (ks : List Nat) (t : List Nat), (∀ w ∈ az, ByT w) → asgT m k az ks = some t → ByT t
  | [], [], t, _, h => by cases h; intro c hc; cases hc
  | [], _ :: _, t, _, h => by cases h
  | _ :: _, [], t, _, h => by cases h
  | w :: az, x :: ks, t, hb, h => by
    obtain ⟨t0, h0, h⟩ := Option.bind_eq_some_iff.1 h
    obtain ⟨t1, h1, rfl⟩ := Option.map_eq_some_iff.1 h
    have b1 := asgT_by hN az ks t1 (fun w hw => hb w (List.mem_cons_of_mem _ hw)) h1
    have b0 := hN x t0 h0
    have bw := hb w List.mem_cons_self
    intro c hc
    simp only [List.mem_append, List.append_nil] at hc
    rcases hc with (hc | hc | hc) | hc | hc
    · exact (by decide : ByT [10]) c hc
    · exact bw c hc
    · exact (by decide : ByT [32, 58, 58, 61, 32]) c hc
    · exact b0 c hc
    · exact b1 c hc
theorem conT_by {c : ConS} (h1 : In64 c.low) (h2 : In64 c.high) {a b : List Nat} (ha : ByT a) (hb : ByT b) : ByT (conT c a b) := by
  unfold conT
  cases c.has with
  | false => intro x hx; cases hx
  | true =>
    have hB : ByT (bndT c) := by
      have n1 := (numC_by h1).1
      have n2 := (numC_by h2).1
      unfold bndT
      intro x hx
      rcases List.mem_append.1 hx with hx | hx
      · cases hq : (c.hasLow && c.hasHigh) && eqF c.low c.high <;> rw [hq] at hx
        · rcases List.mem_append.1 hx with hx | hx
          · cases hL : c.hasLow <;> rw [hL] at hx
            · exact (by decide : ByT [77, 73, 78]) x hx
            · exact n1 x hx
          · rcases List.mem_append.1 hx with hx | hx
            · exact (by decide : ByT [46, 46]) x hx
            · cases hH : c.hasHigh <;> rw [hH] at hx
              · exact (by decide : ByT [77, 65, 88]) x hx
              · exact n2 x hx
        · exact n1 x hx
      · cases hM : c.more <;> rw [hM] at hx
        · cases hx
        · exact (by decide : ByT [44, 32, 46, 46, 46]) x hx
    intro x hx
    rcases List.mem_append.1 hx with hx | hx
    · exact ha x hx
    · rcases List.mem_append.1 hx with hx | hx
      · exact hB x hx
      · exact hb x hx
theorem pNd_by {m : ModS} (hI : ConI m) : ∀ (k i : Nat) (t : List Nat), pNd m k i = some t → ByT t
  | 0, _, _, h => by cases h
  | k + 1, i, t, h => by
    obtain ⟨nd, hi, h⟩ := Option.bind_eq_some_iff.1 h
    obtain ⟨c1, c2⟩ := hI nd (List.mem_of_getElem? hi)
    cases hm : nd.mHas with
    | true => rw [hm] at h; cases h
    | false =>
    rw [hm] at h
    have h : (match nd.kind with
      | 2 => some ([73, 78, 84, 69, 71, 69, 82] ++ conT nd.con [32, 40] [41])
      | 4 => some [78, 85, 76, 76]
      | 10 => (pNd m k nd.of_).map fun t => [83, 69, 81, 85, 69, 78, 67, 69, 32] ++ (conT nd.con [40, 83, 73, 90, 69, 32, 40] [41, 41, 32] ++ ([79, 70, 32] ++ t))
      | _ => none : Option (List Nat)) = some t := h
    split at h
    · cases h
      intro x hx
      rcases List.mem_append.1 hx with hx | hx
      · exact (by decide : ByT [73, 78, 84, 69, 71, 69, 82]) x hx
      · exact conT_by c1 c2 (by decide) (by decide) x hx
    · cases h; decide
    · obtain ⟨t0, h0, rfl⟩ := Option.map_eq_some_iff.1 h
      have b0 := pNd_by hI k nd.of_ t0 h0
      intro x hx
      rcases List.mem_append.1 hx with hx | hx
      · exact (by decide : ByT [83, 69, 81, 85, 69, 78, 67, 69, 32]) x hx
      · rcases List.mem_append.1 hx with hx | hx
        · exact conT_by c1 c2 (by decide) (by decide) x hx
        · rcases List.mem_append.1 hx with hx | hx
          · exact (by decide : ByT [79, 70, 32]) x hx
          · exact b0 x hx
    · cases h
theorem print_F {m : ModS} {k : Nat} (hN : 100 < N) (hm : PrOk m) (hp : SpPut (D 18)) (hT : SpTagg (D 17)) (hD : SpNdP E m k (D 19)) : SpPrint E m k (F7 E D (drawW E D) N) := by
  intro σ nv tv dv t ht hP hS hT2 hl
  obtain ⟨t0, h0, rfl⟩ := Option.map_eq_some_iff.1 hT2
  obtain ⟨mb, ml⟩ := hm.nm
  obtain ⟨n1, n2⟩ := hm.n
  -- the two blocks
  obtain ⟨σ1, e1, f1, a1, x1⟩ := mkN ht (mdC m nv tv dv)
  obtain ⟨σ2, e2, f2, a2, x2⟩ := mkN f1.tidy (.nils :: .bool false :: mdC m nv tv dv)
  have f02 : Fr Nowhere σ σ2 := f1.trans f2 fun _ _ e => e
  have am : Atc σ2 σ.next (mdC m nv tv dv) := f2.at_ a1 f1.tidy (fun e => e)
  have w2 : Wp (fun b => b ≤ σ.next) σ2 σ1.next (mdC m nv tv dv) [] := ⟨f2.tidy, fun e => by omega, fun b e => by omega, .nils, a2, Dst.nil σ2 1, fun b e => e.elim⟩
  obtain ⟨σ3, g3, f3, a3⟩ := stz (y := .bool false) (off := 1) f2.tidy a2 rfl (by simp)
  have e3 : spl (V.nils :: .bool false :: mdC m nv tv dv) 1 [.bool false] = V.nils :: .bool false :: mdC m nv tv dv := by
    show V.nils :: .bool false :: spl (mdC m nv tv dv) 0 [] = _
    rw [spl_nil]
  rw [e3] at a3
  have w3 : Wp (fun b => b ≤ σ.next) σ3 σ1.next (mdC m nv tv dv) [] := ⟨f3.tidy, fun e => by omega, fun b e => by have := f3.le; omega, .nils, a3, Dst.nil σ3 1, fun b e => e.elim⟩
  have am3 := f3.at_ am f2.tidy (fun e => by omega)
  obtain ⟨env, σ4, d4, l1, l3, w4, f4⟩ := pr_reg (E := E) hp w3 (show σ.next ≤ σ.next by omega) am3 mb ml
  have f23 : Fr (fun b => ¬ b ≤ σ.next) σ2 σ4 := (f3.mono fun b _ e => by omega : Fr (fun b => ¬ b ≤ σ.next) σ2 σ3).trans f4 fun _ _ e => e
  have q2 : 2 ≤ σ.next := by have := hP.n; omega
  have w4 : Wq E (fun b => b ≤ σ.next) σ4 σ1.next (mdC m nv tv dv) (modH m) := ⟨by
    have e : [m.nm, [32, 68, 69, 70, 73, 78, 73, 84, 73, 79, 78, 83, 32], [69, 88, 80, 76, 73, 67, 73, 84, 32, 84, 65, 71, 83, 32], [58, 58, 61, 32, 66, 69, 71, 73, 78]].flatten = modH m := rfl
    rw [← e]; exact w4, (hP.fr f02 (fun e => e)).fr f23 (fun e => e q2), q2⟩
  have am4 := f23.at_ am f2.tidy (fun e => e (Nat.le_refl _))
  have hq : MdQ (fun b => b ≤ σ.next) σ4 m nv tv dv := by
    have := hS.q (Q := fun b => b ≤ σ.next) ht (fun b e => by omega)
    exact (this.fr (fr0 f02) ht).fr f23 f2.tidy
  obtain ⟨σ5, g5, w5, f5⟩ := pr_L (Q := fun b => b ≤ σ.next) (W := drawW E D) (K1 := T7_1 E D (drawW E D)) hp hD (show σ.next ≤ σ.next by omega) rfl hm m.az m.ks [] [] N 0 (modH m) t0 σ4 w4 hq am4 rfl rfl rfl rfl h0 (by simp at hl ⊢; omega) (by omega)
  have hby : ByT (modH m ++ t0) := fun c hc => by
    rcases List.mem_append.1 hc with hc | hc
    · unfold modH at hc
      simp only [List.mem_append, List.append_nil] at hc
      rcases hc with hc | hc | hc | hc
      · exact mb c hc
      · exact (by decide : ByT [32, 68, 69, 70, 73, 78, 73, 84, 73, 79, 78, 83, 32]) c hc
      · exact (by decide : ByT [69, 88, 80, 76, 73, 67, 73, 84, 32, 84, 65, 71, 83, 32]) c hc
      · exact (by decide : ByT [58, 58, 61, 32, 66, 69, 71, 73, 78]) c hc
    · exact asgT_by (pNd_by hm.c k) m.az m.ks t0 hm.az h0 c hc
  obtain ⟨σ6, g6, f6⟩ := pr_end (W := drawW E D) hp w5 hby (by simp at hl ⊢; omega)
  refine ⟨σ6, ?_, ?_⟩
  · have o1 : nv.one = true := hq.n.one
    have o2 : tv.one = true := hq.t.one
    have o3 : dv.one = true := by
      obtain ⟨ws, x, _⟩ := hq.d
      exact x.one
    have sl3 : ∀ κ : Nat → Ans, slenK tv κ = κ m.ks.length := fun κ => hq.t.slen
    have sl2 : ∀ κ : Nat → Ans, slenK nv κ = κ m.az.length := fun κ => hq.n.slen
    have tgz := hT σ2
    have bne : BS.beq (BS.mk 14 655635097218688137868315485820997) (BS.mk 0 0) = false := by decide +kernel
    have nd : decide (m.ks.length = m.az.length) = true := decide_eq_true n2
    have gd : ∀ κ : Env → H → Ans, gdrawK (drawW E D G7_0 H7_0 [(1, .ptr σ.next 0), (3, .ptr σ1.next 0), (4, .str (BS.mk 14 655635097218688137868315485820997))] σ3) κ = κ env σ4 := fun κ => by rw [d4]; rfl
    have gl1 : ∀ κ : V → Ans, getL env 1 κ = κ (.ptr σ.next 0) := fun κ => getL_of l1 rfl
    have gl3 : ∀ κ : V → Ans, getL env 3 κ = κ (.ptr σ1.next 0) := fun κ => getL_of l3 rfl
    have tg0 := hm.tg
    unfold mdC at e1 a1 e2 am am4
    rw [tg0] at e1 a1 e2 am am4
    have sub5 : ∀ κ : List V → Ans, subK [.str (ofN m.nm), .int .i64 (Int.ofNat 0), nv, tv, dv] 0 5 κ = κ [.str (ofN m.nm), .int .i64 (Int.ofNat 0), nv, tv, dv] := fun κ => rfl
    have a2' : Atc σ2 σ1.next [.nils, .bool false, .str (ofN m.nm), .int .i64 (Int.ofNat 0), nv, tv, dv] := by
      have := a2
      unfold mdC at this
      rw [tg0] at this; exact this
    have key : ∀ K2, T7_0 E D (drawW E D) K2 (ofN m.nm) (Int.ofNat 0) nv tv dv σ = K2 σ.next 0 σ1.next 0 nv (Int.ofNat m.az.length) (Int.ofNat 0) σ4 := by
      intro K2
      unfold T7_0
      simp -implicitDefEqProofs only [↓rP, rA, Nat.reduceEqDiff, Nat.reduceLT, Nat.reduceLeDiff, nbK, o1, o2, o3, ↓e1, ↓ldnK_is a1, ↓sub5, ↓e2, ↓ldK_is am, ↓tgz, ↓bne, ↓sl3, ↓sl2, nd, ↓g3, ↓gd, ↓gl1, ↓gl3, ↓ldK_is am4]
    show T7_0 E D (drawW E D) _ (ofN m.nm) (Int.ofNat m.tg) nv tv dv σ = _
    rw [tg0, key]
    refine g5.trans (g6.trans ?_)
    rw [List.append_assoc]
  · exact (f02.trans f23 fun b hb e => e (Nat.le_of_lt hb)).trans (f5.trans f6 fun _ _ e => e) fun b hb e => e (Nat.le_of_lt hb)
end
end
end Go.Proofs.YtabnjnkmdknhaaaGreatDoor
set_option linter.all false
set_option maxRecDepth 100000
namespace Go.Proofs.YtabnjnkmdknhaaaGreatDoor
open Go Go.Og
noncomputable section
theorem sg_cm (r : List Nat) : sgIn signsV (44 :: r) = 1 := by
  unfold signsV
  rw [sg_skip (by decide +kernel) (by decide +kernel)]
  rw [sg_skip (by decide +kernel) (by decide +kernel)]
  rw [sg_skip (by decide +kernel) (by decide +kernel)]
  rw [sg_skip (by decide +kernel) (by decide +kernel)]
  rw [sg_skip (by decide +kernel) (by decide +kernel)]
  rw [sg_skip (by decide +kernel) (by decide +kernel)]
  rw [sg_skip (by decide +kernel) (by decide +kernel)]
  rw [sg_skip (by decide +kernel) (by decide +kernel)]
  rw [sg_skip (by decide +kernel) (by decide +kernel)]
  rw [sg_skip (by decide +kernel) (by decide +kernel)]
  rw [sg_skip (by decide +kernel) (by decide +kernel)]
  exact sg_hit (t := BS.mk 1 44) (s := r) (by rw [show (BS.mk 1 44).nats = [44] from by decide +kernel]; rfl)
theorem sg_ddd (r : List Nat) : sgIn signsV (46 :: 46 :: 46 :: r) = 3 := by
  unfold signsV
  rw [sg_skip (by decide +kernel) (by decide +kernel)]
  exact sg_hit (t := BS.mk 3 3026478) (s := r) (by rw [show (BS.mk 3 3026478).nats = [46, 46, 46] from by decide +kernel]; rfl)
theorem num_stepC {N len : Nat} {v : Int} {r : List Nat} {ts : List Tok} (hv : In64 v) (hd : digB (r.headD 0) = false) (hl : letB (r.headD 0) = false) (h : Tks (N + 10) len r ts) : Tks (N + 10) len (numC v ++ r) ((3, numC v, len - (numC v ++ r).length) :: ts) := by
  obtain ⟨m, ds, e, hn, _⟩ := numC_ok hv hd hl
  rw [e]
  obtain ⟨c, l, e2, a, _, b⟩ := numT_head hn
  exact .one (r1 := numT m ds ++ r) (by rw [e2]; exact wht_no a (b _)) (.num hn) h
theorem dd_nextC {v : Int} {r : List Nat} (hv : In64 v) (hd : digB (r.headD 0) = false) (hl : letB (r.headD 0) = false) : ∃ c u, numC v ++ r = c :: u ∧ c ≠ 46 := by
  obtain ⟨m, ds, e, hn, _⟩ := numC_ok hv hd hl
  obtain ⟨c, l, e2, _, n, _⟩ := numT_head hn
  exact ⟨c, l ++ r, by rw [e, e2]; rfl, n⟩
theorem numI_C {v : Int} (hv : In64 v) : numI (numC v) = v := (numC_ok (r := [41]) hv rfl rfl).choose_spec.choose_spec.2.2
def pcAT (len : Nat) (t : List Nat) (ts : List Tok) : List Tok := (1, [77], len - (77 :: 32 :: 68 :: 69 :: 70 :: 73 :: 78 :: 73 :: 84 :: 73 :: 79 :: 78 :: 83 :: 32 :: 58 :: 58 :: 61 :: 32 :: 66 :: 69 :: 71 :: 73 :: 78 :: 32 :: 65 :: 32 :: 58 :: 58 :: 61 :: 32 :: 73 :: 78 :: 84 :: 69 :: 71 :: 69 :: 82 :: 32 :: 40 :: t).length) :: (5, [68, 69, 70, 73, 78, 73, 84, 73, 79, 78, 83], len - (68 :: 69 :: 70 :: 73 :: 78 :: 73 :: 84 :: 73 :: 79 :: 78 :: 83 :: 32 :: 58 :: 58 :: 61 :: 32 :: 66 :: 69 :: 71 :: 73 :: 78 :: 32 :: 65 :: 32 :: 58 :: 58 :: 61 :: 32 :: 73 :: 78 :: 84 :: 69 :: 71 :: 69 :: 82 :: 32 :: 40 :: t).length) :: (6, [58, 58, 61], len - (58 :: 58 :: 61 :: 32 :: 66 :: 69 :: 71 :: 73 :: 78 :: 32 :: 65 :: 32 :: 58 :: 58 :: 61 :: 32 :: 73 :: 78 :: 84 :: 69 :: 71 :: 69 :: 82 :: 32 :: 40 :: t).length) :: (5, [66, 69, 71, 73, 78], len - (66 :: 69 :: 71 :: 73 :: 78 :: 32 :: 65 :: 32 :: 58 :: 58 :: 61 :: 32 :: 73 :: 78 :: 84 :: 69 :: 71 :: 69 :: 82 :: 32 :: 40 :: t).length) :: (1, [65], len - (65 :: 32 :: 58 :: 58 :: 61 :: 32 :: 73 :: 78 :: 84 :: 69 :: 71 :: 69 :: 82 :: 32 :: 40 :: t).length) :: (6, [58, 58, 61], len - (58 :: 58 :: 61 :: 32 :: 73 :: 78 :: 84 :: 69 :: 71 :: 69 :: 82 :: 32 :: 40 :: t).length) :: (5, [73, 78, 84, 69, 71, 69, 82], len - (73 :: 78 :: 84 :: 69 :: 71 :: 69 :: 82 :: 32 :: 40 :: t).length) :: (6, [40], len - (40 :: t).length) :: ts
theorem pcA {N len : Nat} {t : List Nat} {ts : List Tok} (h : Tks (N + 10) len t ts) : Tks (N + 10) len (77 :: 32 :: 68 :: 69 :: 70 :: 73 :: 78 :: 73 :: 84 :: 73 :: 79 :: 78 :: 83 :: 32 :: 58 :: 58 :: 61 :: 32 :: 66 :: 69 :: 71 :: 73 :: 78 :: 32 :: 65 :: 32 :: 58 :: 58 :: 61 :: 32 :: 73 :: 78 :: 84 :: 69 :: 71 :: 69 :: 82 :: 32 :: 40 :: t) (pcAT len t ts) := by
  unfold pcAT
  refine .one (wht_no rfl rfl) (tk_name (n := 1) rfl rfl rfl rfl (by decide +kernel) (by decide +kernel)) ?_
  refine .one (wht_ws rfl rfl) (tk_name (n := 11) rfl rfl rfl rfl (by decide +kernel) (by decide +kernel)) ?_
  refine .one (wht_ws rfl rfl) (tk_sign (sg_asg _) (by decide) rfl rfl rfl rfl (by decide) (by decide) (by decide)) ?_
  refine .one (wht_ws rfl rfl) (tk_name (n := 5) rfl rfl rfl rfl (by decide +kernel) (by decide +kernel)) ?_
  refine .one (wht_ws rfl rfl) (tk_name (n := 1) rfl rfl rfl rfl (by decide +kernel) (by decide +kernel)) ?_
  refine .one (wht_ws rfl rfl) (tk_sign (sg_asg _) (by decide) rfl rfl rfl rfl (by decide) (by decide) (by decide)) ?_
  refine .one (wht_ws rfl rfl) (tk_name (n := 7) rfl rfl rfl rfl (by decide +kernel) (by decide +kernel)) ?_
  refine .one (wht_ws rfl rfl) (tk_sign (sg_lp _) (by decide) rfl rfl rfl rfl (by decide) (by decide) (by decide)) ?_
  exact h
def pcMT (len : Nat) (t : List Nat) (ts : List Tok) : List Tok := (5, [77, 73, 78], len - (77 :: 73 :: 78 :: 46 :: 46 :: t).length) :: (6, [46, 46], len - (46 :: 46 :: t).length) :: ts
theorem pcM {N len : Nat} {t : List Nat} {ts : List Tok} (hc : ∃ c u, t = c :: u ∧ c ≠ 46) (h : Tks (N + 10) len t ts) : Tks (N + 10) len (77 :: 73 :: 78 :: 46 :: 46 :: t) (pcMT len t ts) := by
  unfold pcMT
  refine .one (wht_no rfl rfl) (tk_name (n := 3) rfl rfl rfl rfl (by decide +kernel) (by decide +kernel)) ?_
  refine .one (wht_no rfl rfl) (tk_sign (n := 2) (by obtain ⟨c, u, e, hc⟩ := hc; rw [e]; exact sg_dd _ _ hc) (by decide) rfl rfl rfl rfl (by decide) (by decide) (by decide)) ?_
  exact h
def pcDT (len : Nat) (t : List Nat) (ts : List Tok) : List Tok := (6, [46, 46], len - (46 :: 46 :: t).length) :: ts
theorem pcD {N len : Nat} {t : List Nat} {ts : List Tok} (hc : ∃ c u, t = c :: u ∧ c ≠ 46) (h : Tks (N + 10) len t ts) : Tks (N + 10) len (46 :: 46 :: t) (pcDT len t ts) := by
  unfold pcDT
  refine .one (wht_no rfl rfl) (tk_sign (n := 2) (by obtain ⟨c, u, e, hc⟩ := hc; rw [e]; exact sg_dd _ _ hc) (by decide) rfl rfl rfl rfl (by decide) (by decide) (by decide)) ?_
  exact h
def pcX0T (len : Nat) (t : List Nat) (ts : List Tok) : List Tok := (6, [41], len - (41 :: 32 :: 66 :: 32 :: 58 :: 58 :: 61 :: 32 :: 83 :: 69 :: 81 :: 85 :: 69 :: 78 :: 67 :: 69 :: 32 :: 40 :: 83 :: 73 :: 90 :: 69 :: 32 :: 40 :: t).length) :: (1, [66], len - (66 :: 32 :: 58 :: 58 :: 61 :: 32 :: 83 :: 69 :: 81 :: 85 :: 69 :: 78 :: 67 :: 69 :: 32 :: 40 :: 83 :: 73 :: 90 :: 69 :: 32 :: 40 :: t).length) :: (6, [58, 58, 61], len - (58 :: 58 :: 61 :: 32 :: 83 :: 69 :: 81 :: 85 :: 69 :: 78 :: 67 :: 69 :: 32 :: 40 :: 83 :: 73 :: 90 :: 69 :: 32 :: 40 :: t).length) :: (5, [83, 69, 81, 85, 69, 78, 67, 69], len - (83 :: 69 :: 81 :: 85 :: 69 :: 78 :: 67 :: 69 :: 32 :: 40 :: 83 :: 73 :: 90 :: 69 :: 32 :: 40 :: t).length) :: (6, [40], len - (40 :: 83 :: 73 :: 90 :: 69 :: 32 :: 40 :: t).length) :: (5, [83, 73, 90, 69], len - (83 :: 73 :: 90 :: 69 :: 32 :: 40 :: t).length) :: (6, [40], len - (40 :: t).length) :: ts
theorem pcX0 {N len : Nat} {t : List Nat} {ts : List Tok} (h : Tks (N + 10) len t ts) : Tks (N + 10) len (41 :: 32 :: 66 :: 32 :: 58 :: 58 :: 61 :: 32 :: 83 :: 69 :: 81 :: 85 :: 69 :: 78 :: 67 :: 69 :: 32 :: 40 :: 83 :: 73 :: 90 :: 69 :: 32 :: 40 :: t) (pcX0T len t ts) := by
  unfold pcX0T
  refine .one (wht_no rfl rfl) (tk_sign (sg_rp _) (by decide) rfl rfl rfl rfl (by decide) (by decide) (by decide)) ?_
  refine .one (wht_ws rfl rfl) (tk_name (n := 1) rfl rfl rfl rfl (by decide +kernel) (by decide +kernel)) ?_
  refine .one (wht_ws rfl rfl) (tk_sign (sg_asg _) (by decide) rfl rfl rfl rfl (by decide) (by decide) (by decide)) ?_
  refine .one (wht_ws rfl rfl) (tk_name (n := 8) rfl rfl rfl rfl (by decide +kernel) (by decide +kernel)) ?_
  refine .one (wht_ws rfl rfl) (tk_sign (sg_lp _) (by decide) rfl rfl rfl rfl (by decide) (by decide) (by decide)) ?_
  refine .one (wht_no rfl rfl) (tk_name (n := 4) rfl rfl rfl rfl (by decide +kernel) (by decide +kernel)) ?_
  refine .one (wht_ws rfl rfl) (tk_sign (sg_lp _) (by decide) rfl rfl rfl rfl (by decide) (by decide) (by decide)) ?_
  exact h
theorem pcY0 (N len : Nat) : Tks (N + 10) len (41 :: 41 :: 32 :: 79 :: 70 :: 32 :: 78 :: 85 :: 76 :: 76 :: 32 :: 67 :: 32 :: 58 :: 58 :: 61 :: 32 :: 73 :: 78 :: 84 :: 69 :: 71 :: 69 :: 82 :: 32 :: 69 :: 78 :: 68 :: []) [(6, [41], len - (41 :: 41 :: 32 :: 79 :: 70 :: 32 :: 78 :: 85 :: 76 :: 76 :: 32 :: 67 :: 32 :: 58 :: 58 :: 61 :: 32 :: 73 :: 78 :: 84 :: 69 :: 71 :: 69 :: 82 :: 32 :: 69 :: 78 :: 68 :: []).length), (6, [41], len - (41 :: 32 :: 79 :: 70 :: 32 :: 78 :: 85 :: 76 :: 76 :: 32 :: 67 :: 32 :: 58 :: 58 :: 61 :: 32 :: 73 :: 78 :: 84 :: 69 :: 71 :: 69 :: 82 :: 32 :: 69 :: 78 :: 68 :: []).length), (5, [79, 70], len - (79 :: 70 :: 32 :: 78 :: 85 :: 76 :: 76 :: 32 :: 67 :: 32 :: 58 :: 58 :: 61 :: 32 :: 73 :: 78 :: 84 :: 69 :: 71 :: 69 :: 82 :: 32 :: 69 :: 78 :: 68 :: []).length), (5, [78, 85, 76, 76], len - (78 :: 85 :: 76 :: 76 :: 32 :: 67 :: 32 :: 58 :: 58 :: 61 :: 32 :: 73 :: 78 :: 84 :: 69 :: 71 :: 69 :: 82 :: 32 :: 69 :: 78 :: 68 :: []).length), (1, [67], len - (67 :: 32 :: 58 :: 58 :: 61 :: 32 :: 73 :: 78 :: 84 :: 69 :: 71 :: 69 :: 82 :: 32 :: 69 :: 78 :: 68 :: []).length), (6, [58, 58, 61], len - (58 :: 58 :: 61 :: 32 :: 73 :: 78 :: 84 :: 69 :: 71 :: 69 :: 82 :: 32 :: 69 :: 78 :: 68 :: []).length), (5, [73, 78, 84, 69, 71, 69, 82], len - (73 :: 78 :: 84 :: 69 :: 71 :: 69 :: 82 :: 32 :: 69 :: 78 :: 68 :: []).length), (5, [69, 78, 68], len - (69 :: 78 :: 68 :: []).length), (0, [], len)] := by
  refine .one (wht_no rfl rfl) (tk_sign (sg_rp _) (by decide) rfl rfl rfl rfl (by decide) (by decide) (by decide)) ?_
  refine .one (wht_no rfl rfl) (tk_sign (sg_rp _) (by decide) rfl rfl rfl rfl (by decide) (by decide) (by decide)) ?_
  refine .one (wht_ws rfl rfl) (tk_name (n := 2) rfl rfl rfl rfl (by decide +kernel) (by decide +kernel)) ?_
  refine .one (wht_ws rfl rfl) (tk_name (n := 4) rfl rfl rfl rfl (by decide +kernel) (by decide +kernel)) ?_
  refine .one (wht_ws rfl rfl) (tk_name (n := 1) rfl rfl rfl rfl (by decide +kernel) (by decide +kernel)) ?_
  refine .one (wht_ws rfl rfl) (tk_sign (sg_asg _) (by decide) rfl rfl rfl rfl (by decide) (by decide) (by decide)) ?_
  refine .one (wht_ws rfl rfl) (tk_name (n := 7) rfl rfl rfl rfl (by decide +kernel) (by decide +kernel)) ?_
  refine .one (wht_ws rfl rfl) (tk_name (n := 3) rfl rfl rfl rfl (by decide +kernel) (by decide +kernel)) ?_
  exact .fin rfl
def pcMX0T (len : Nat) (t : List Nat) (ts : List Tok) : List Tok := (6, [46, 46], len - (46 :: 46 :: 77 :: 65 :: 88 :: 41 :: 32 :: 66 :: 32 :: 58 :: 58 :: 61 :: 32 :: 83 :: 69 :: 81 :: 85 :: 69 :: 78 :: 67 :: 69 :: 32 :: 40 :: 83 :: 73 :: 90 :: 69 :: 32 :: 40 :: t).length) :: (5, [77, 65, 88], len - (77 :: 65 :: 88 :: 41 :: 32 :: 66 :: 32 :: 58 :: 58 :: 61 :: 32 :: 83 :: 69 :: 81 :: 85 :: 69 :: 78 :: 67 :: 69 :: 32 :: 40 :: 83 :: 73 :: 90 :: 69 :: 32 :: 40 :: t).length) :: (6, [41], len - (41 :: 32 :: 66 :: 32 :: 58 :: 58 :: 61 :: 32 :: 83 :: 69 :: 81 :: 85 :: 69 :: 78 :: 67 :: 69 :: 32 :: 40 :: 83 :: 73 :: 90 :: 69 :: 32 :: 40 :: t).length) :: (1, [66], len - (66 :: 32 :: 58 :: 58 :: 61 :: 32 :: 83 :: 69 :: 81 :: 85 :: 69 :: 78 :: 67 :: 69 :: 32 :: 40 :: 83 :: 73 :: 90 :: 69 :: 32 :: 40 :: t).length) :: (6, [58, 58, 61], len - (58 :: 58 :: 61 :: 32 :: 83 :: 69 :: 81 :: 85 :: 69 :: 78 :: 67 :: 69 :: 32 :: 40 :: 83 :: 73 :: 90 :: 69 :: 32 :: 40 :: t).length) :: (5, [83, 69, 81, 85, 69, 78, 67, 69], len - (83 :: 69 :: 81 :: 85 :: 69 :: 78 :: 67 :: 69 :: 32 :: 40 :: 83 :: 73 :: 90 :: 69 :: 32 :: 40 :: t).length) :: (6, [40], len - (40 :: 83 :: 73 :: 90 :: 69 :: 32 :: 40 :: t).length) :: (5, [83, 73, 90, 69], len - (83 :: 73 :: 90 :: 69 :: 32 :: 40 :: t).length) :: (6, [40], len - (40 :: t).length) :: ts
theorem pcMX0 {N len : Nat} {t : List Nat} {ts : List Tok} (h : Tks (N + 10) len t ts) : Tks (N + 10) len (46 :: 46 :: 77 :: 65 :: 88 :: 41 :: 32 :: 66 :: 32 :: 58 :: 58 :: 61 :: 32 :: 83 :: 69 :: 81 :: 85 :: 69 :: 78 :: 67 :: 69 :: 32 :: 40 :: 83 :: 73 :: 90 :: 69 :: 32 :: 40 :: t) (pcMX0T len t ts) := by
  unfold pcMX0T
  refine .one (wht_no rfl rfl) (tk_sign (n := 2) (sg_dd _ _ (by decide)) (by decide) rfl rfl rfl rfl (by decide) (by decide) (by decide)) ?_
  refine .one (wht_no rfl rfl) (tk_name (n := 3) rfl rfl rfl rfl (by decide +kernel) (by decide +kernel)) ?_
  refine .one (wht_no rfl rfl) (tk_sign (sg_rp _) (by decide) rfl rfl rfl rfl (by decide) (by decide) (by decide)) ?_
  refine .one (wht_ws rfl rfl) (tk_name (n := 1) rfl rfl rfl rfl (by decide +kernel) (by decide +kernel)) ?_
  refine .one (wht_ws rfl rfl) (tk_sign (sg_asg _) (by decide) rfl rfl rfl rfl (by decide) (by decide) (by decide)) ?_
  refine .one (wht_ws rfl rfl) (tk_name (n := 8) rfl rfl rfl rfl (by decide +kernel) (by decide +kernel)) ?_
  refine .one (wht_ws rfl rfl) (tk_sign (sg_lp _) (by decide) rfl rfl rfl rfl (by decide) (by decide) (by decide)) ?_
  refine .one (wht_no rfl rfl) (tk_name (n := 4) rfl rfl rfl rfl (by decide +kernel) (by decide +kernel)) ?_
  refine .one (wht_ws rfl rfl) (tk_sign (sg_lp _) (by decide) rfl rfl rfl rfl (by decide) (by decide) (by decide)) ?_
  exact h
theorem pcMY0 (N len : Nat) : Tks (N + 10) len (46 :: 46 :: 77 :: 65 :: 88 :: 41 :: 41 :: 32 :: 79 :: 70 :: 32 :: 78 :: 85 :: 76 :: 76 :: 32 :: 67 :: 32 :: 58 :: 58 :: 61 :: 32 :: 73 :: 78 :: 84 :: 69 :: 71 :: 69 :: 82 :: 32 :: 69 :: 78 :: 68 :: []) [(6, [46, 46], len - (46 :: 46 :: 77 :: 65 :: 88 :: 41 :: 41 :: 32 :: 79 :: 70 :: 32 :: 78 :: 85 :: 76 :: 76 :: 32 :: 67 :: 32 :: 58 :: 58 :: 61 :: 32 :: 73 :: 78 :: 84 :: 69 :: 71 :: 69 :: 82 :: 32 :: 69 :: 78 :: 68 :: []).length), (5, [77, 65, 88], len - (77 :: 65 :: 88 :: 41 :: 41 :: 32 :: 79 :: 70 :: 32 :: 78 :: 85 :: 76 :: 76 :: 32 :: 67 :: 32 :: 58 :: 58 :: 61 :: 32 :: 73 :: 78 :: 84 :: 69 :: 71 :: 69 :: 82 :: 32 :: 69 :: 78 :: 68 :: []).length), (6, [41], len - (41 :: 41 :: 32 :: 79 :: 70 :: 32 :: 78 :: 85 :: 76 :: 76 :: 32 :: 67 :: 32 :: 58 :: 58 :: 61 :: 32 :: 73 :: 78 :: 84 :: 69 :: 71 :: 69 :: 82 :: 32 :: 69 :: 78 :: 68 :: []).length), (6, [41], len - (41 :: 32 :: 79 :: 70 :: 32 :: 78 :: 85 :: 76 :: 76 :: 32 :: 67 :: 32 :: 58 :: 58 :: 61 :: 32 :: 73 :: 78 :: 84 :: 69 :: 71 :: 69 :: 82 :: 32 :: 69 :: 78 :: 68 :: []).length), (5, [79, 70], len - (79 :: 70 :: 32 :: 78 :: 85 :: 76 :: 76 :: 32 :: 67 :: 32 :: 58 :: 58 :: 61 :: 32 :: 73 :: 78 :: 84 :: 69 :: 71 :: 69 :: 82 :: 32 :: 69 :: 78 :: 68 :: []).length), (5, [78, 85, 76, 76], len - (78 :: 85 :: 76 :: 76 :: 32 :: 67 :: 32 :: 58 :: 58 :: 61 :: 32 :: 73 :: 78 :: 84 :: 69 :: 71 :: 69 :: 82 :: 32 :: 69 :: 78 :: 68 :: []).length), (1, [67], len - (67 :: 32 :: 58 :: 58 :: 61 :: 32 :: 73 :: 78 :: 84 :: 69 :: 71 :: 69 :: 82 :: 32 :: 69 :: 78 :: 68 :: []).length), (6, [58, 58, 61], len - (58 :: 58 :: 61 :: 32 :: 73 :: 78 :: 84 :: 69 :: 71 :: 69 :: 82 :: 32 :: 69 :: 78 :: 68 :: []).length), (5, [73, 78, 84, 69, 71, 69, 82], len - (73 :: 78 :: 84 :: 69 :: 71 :: 69 :: 82 :: 32 :: 69 :: 78 :: 68 :: []).length), (5, [69, 78, 68], len - (69 :: 78 :: 68 :: []).length), (0, [], len)] := by
  refine .one (wht_no rfl rfl) (tk_sign (n := 2) (sg_dd _ _ (by decide)) (by decide) rfl rfl rfl rfl (by decide) (by decide) (by decide)) ?_
  refine .one (wht_no rfl rfl) (tk_name (n := 3) rfl rfl rfl rfl (by decide +kernel) (by decide +kernel)) ?_
  refine .one (wht_no rfl rfl) (tk_sign (sg_rp _) (by decide) rfl rfl rfl rfl (by decide) (by decide) (by decide)) ?_
  refine .one (wht_no rfl rfl) (tk_sign (sg_rp _) (by decide) rfl rfl rfl rfl (by decide) (by decide) (by decide)) ?_
  refine .one (wht_ws rfl rfl) (tk_name (n := 2) rfl rfl rfl rfl (by decide +kernel) (by decide +kernel)) ?_
  refine .one (wht_ws rfl rfl) (tk_name (n := 4) rfl rfl rfl rfl (by decide +kernel) (by decide +kernel)) ?_
  refine .one (wht_ws rfl rfl) (tk_name (n := 1) rfl rfl rfl rfl (by decide +kernel) (by decide +kernel)) ?_
  refine .one (wht_ws rfl rfl) (tk_sign (sg_asg _) (by decide) rfl rfl rfl rfl (by decide) (by decide) (by decide)) ?_
  refine .one (wht_ws rfl rfl) (tk_name (n := 7) rfl rfl rfl rfl (by decide +kernel) (by decide +kernel)) ?_
  refine .one (wht_ws rfl rfl) (tk_name (n := 3) rfl rfl rfl rfl (by decide +kernel) (by decide +kernel)) ?_
  exact .fin rfl
def pcNX0T (len : Nat) (t : List Nat) (ts : List Tok) : List Tok := (5, [77, 73, 78], len - (77 :: 73 :: 78 :: 41 :: 32 :: 66 :: 32 :: 58 :: 58 :: 61 :: 32 :: 83 :: 69 :: 81 :: 85 :: 69 :: 78 :: 67 :: 69 :: 32 :: 40 :: 83 :: 73 :: 90 :: 69 :: 32 :: 40 :: t).length) :: (6, [41], len - (41 :: 32 :: 66 :: 32 :: 58 :: 58 :: 61 :: 32 :: 83 :: 69 :: 81 :: 85 :: 69 :: 78 :: 67 :: 69 :: 32 :: 40 :: 83 :: 73 :: 90 :: 69 :: 32 :: 40 :: t).length) :: (1, [66], len - (66 :: 32 :: 58 :: 58 :: 61 :: 32 :: 83 :: 69 :: 81 :: 85 :: 69 :: 78 :: 67 :: 69 :: 32 :: 40 :: 83 :: 73 :: 90 :: 69 :: 32 :: 40 :: t).length) :: (6, [58, 58, 61], len - (58 :: 58 :: 61 :: 32 :: 83 :: 69 :: 81 :: 85 :: 69 :: 78 :: 67 :: 69 :: 32 :: 40 :: 83 :: 73 :: 90 :: 69 :: 32 :: 40 :: t).length) :: (5, [83, 69, 81, 85, 69, 78, 67, 69], len - (83 :: 69 :: 81 :: 85 :: 69 :: 78 :: 67 :: 69 :: 32 :: 40 :: 83 :: 73 :: 90 :: 69 :: 32 :: 40 :: t).length) :: (6, [40], len - (40 :: 83 :: 73 :: 90 :: 69 :: 32 :: 40 :: t).length) :: (5, [83, 73, 90, 69], len - (83 :: 73 :: 90 :: 69 :: 32 :: 40 :: t).length) :: (6, [40], len - (40 :: t).length) :: ts
theorem pcNX0 {N len : Nat} {t : List Nat} {ts : List Tok} (h : Tks (N + 10) len t ts) : Tks (N + 10) len (77 :: 73 :: 78 :: 41 :: 32 :: 66 :: 32 :: 58 :: 58 :: 61 :: 32 :: 83 :: 69 :: 81 :: 85 :: 69 :: 78 :: 67 :: 69 :: 32 :: 40 :: 83 :: 73 :: 90 :: 69 :: 32 :: 40 :: t) (pcNX0T len t ts) := by
  unfold pcNX0T
  refine .one (wht_no rfl rfl) (tk_name (n := 3) rfl rfl rfl rfl (by decide +kernel) (by decide +kernel)) ?_
  refine .one (wht_no rfl rfl) (tk_sign (sg_rp _) (by decide) rfl rfl rfl rfl (by decide) (by decide) (by decide)) ?_
  refine .one (wht_ws rfl rfl) (tk_name (n := 1) rfl rfl rfl rfl (by decide +kernel) (by decide +kernel)) ?_
  refine .one (wht_ws rfl rfl) (tk_sign (sg_asg _) (by decide) rfl rfl rfl rfl (by decide) (by decide) (by decide)) ?_
  refine .one (wht_ws rfl rfl) (tk_name (n := 8) rfl rfl rfl rfl (by decide +kernel) (by decide +kernel)) ?_
  refine .one (wht_ws rfl rfl) (tk_sign (sg_lp _) (by decide) rfl rfl rfl rfl (by decide) (by decide) (by decide)) ?_
  refine .one (wht_no rfl rfl) (tk_name (n := 4) rfl rfl rfl rfl (by decide +kernel) (by decide +kernel)) ?_
  refine .one (wht_ws rfl rfl) (tk_sign (sg_lp _) (by decide) rfl rfl rfl rfl (by decide) (by decide) (by decide)) ?_
  exact h
theorem pcNY0 (N len : Nat) : Tks (N + 10) len (77 :: 73 :: 78 :: 41 :: 41 :: 32 :: 79 :: 70 :: 32 :: 78 :: 85 :: 76 :: 76 :: 32 :: 67 :: 32 :: 58 :: 58 :: 61 :: 32 :: 73 :: 78 :: 84 :: 69 :: 71 :: 69 :: 82 :: 32 :: 69 :: 78 :: 68 :: []) [(5, [77, 73, 78], len - (77 :: 73 :: 78 :: 41 :: 41 :: 32 :: 79 :: 70 :: 32 :: 78 :: 85 :: 76 :: 76 :: 32 :: 67 :: 32 :: 58 :: 58 :: 61 :: 32 :: 73 :: 78 :: 84 :: 69 :: 71 :: 69 :: 82 :: 32 :: 69 :: 78 :: 68 :: []).length), (6, [41], len - (41 :: 41 :: 32 :: 79 :: 70 :: 32 :: 78 :: 85 :: 76 :: 76 :: 32 :: 67 :: 32 :: 58 :: 58 :: 61 :: 32 :: 73 :: 78 :: 84 :: 69 :: 71 :: 69 :: 82 :: 32 :: 69 :: 78 :: 68 :: []).length), (6, [41], len - (41 :: 32 :: 79 :: 70 :: 32 :: 78 :: 85 :: 76 :: 76 :: 32 :: 67 :: 32 :: 58 :: 58 :: 61 :: 32 :: 73 :: 78 :: 84 :: 69 :: 71 :: 69 :: 82 :: 32 :: 69 :: 78 :: 68 :: []).length), (5, [79, 70], len - (79 :: 70 :: 32 :: 78 :: 85 :: 76 :: 76 :: 32 :: 67 :: 32 :: 58 :: 58 :: 61 :: 32 :: 73 :: 78 :: 84 :: 69 :: 71 :: 69 :: 82 :: 32 :: 69 :: 78 :: 68 :: []).length), (5, [78, 85, 76, 76], len - (78 :: 85 :: 76 :: 76 :: 32 :: 67 :: 32 :: 58 :: 58 :: 61 :: 32 :: 73 :: 78 :: 84 :: 69 :: 71 :: 69 :: 82 :: 32 :: 69 :: 78 :: 68 :: []).length), (1, [67], len - (67 :: 32 :: 58 :: 58 :: 61 :: 32 :: 73 :: 78 :: 84 :: 69 :: 71 :: 69 :: 82 :: 32 :: 69 :: 78 :: 68 :: []).length), (6, [58, 58, 61], len - (58 :: 58 :: 61 :: 32 :: 73 :: 78 :: 84 :: 69 :: 71 :: 69 :: 82 :: 32 :: 69 :: 78 :: 68 :: []).length), (5, [73, 78, 84, 69, 71, 69, 82], len - (73 :: 78 :: 84 :: 69 :: 71 :: 69 :: 82 :: 32 :: 69 :: 78 :: 68 :: []).length), (5, [69, 78, 68], len - (69 :: 78 :: 68 :: []).length), (0, [], len)] := by
  refine .one (wht_no rfl rfl) (tk_name (n := 3) rfl rfl rfl rfl (by decide +kernel) (by decide +kernel)) ?_
  refine .one (wht_no rfl rfl) (tk_sign (sg_rp _) (by decide) rfl rfl rfl rfl (by decide) (by decide) (by decide)) ?_
  refine .one (wht_no rfl rfl) (tk_sign (sg_rp _) (by decide) rfl rfl rfl rfl (by decide) (by decide) (by decide)) ?_
  refine .one (wht_ws rfl rfl) (tk_name (n := 2) rfl rfl rfl rfl (by decide +kernel) (by decide +kernel)) ?_
  refine .one (wht_ws rfl rfl) (tk_name (n := 4) rfl rfl rfl rfl (by decide +kernel) (by decide +kernel)) ?_
  refine .one (wht_ws rfl rfl) (tk_name (n := 1) rfl rfl rfl rfl (by decide +kernel) (by decide +kernel)) ?_
  refine .one (wht_ws rfl rfl) (tk_sign (sg_asg _) (by decide) rfl rfl rfl rfl (by decide) (by decide) (by decide)) ?_
  refine .one (wht_ws rfl rfl) (tk_name (n := 7) rfl rfl rfl rfl (by decide +kernel) (by decide +kernel)) ?_
  refine .one (wht_ws rfl rfl) (tk_name (n := 3) rfl rfl rfl rfl (by decide +kernel) (by decide +kernel)) ?_
  exact .fin rfl
def pcX1T (len : Nat) (t : List Nat) (ts : List Tok) : List Tok := (6, [44], len - (44 :: 32 :: 46 :: 46 :: 46 :: 41 :: 32 :: 66 :: 32 :: 58 :: 58 :: 61 :: 32 :: 83 :: 69 :: 81 :: 85 :: 69 :: 78 :: 67 :: 69 :: 32 :: 40 :: 83 :: 73 :: 90 :: 69 :: 32 :: 40 :: t).length) :: (6, [46, 46, 46], len - (46 :: 46 :: 46 :: 41 :: 32 :: 66 :: 32 :: 58 :: 58 :: 61 :: 32 :: 83 :: 69 :: 81 :: 85 :: 69 :: 78 :: 67 :: 69 :: 32 :: 40 :: 83 :: 73 :: 90 :: 69 :: 32 :: 40 :: t).length) :: (6, [41], len - (41 :: 32 :: 66 :: 32 :: 58 :: 58 :: 61 :: 32 :: 83 :: 69 :: 81 :: 85 :: 69 :: 78 :: 67 :: 69 :: 32 :: 40 :: 83 :: 73 :: 90 :: 69 :: 32 :: 40 :: t).length) :: (1, [66], len - (66 :: 32 :: 58 :: 58 :: 61 :: 32 :: 83 :: 69 :: 81 :: 85 :: 69 :: 78 :: 67 :: 69 :: 32 :: 40 :: 83 :: 73 :: 90 :: 69 :: 32 :: 40 :: t).length) :: (6, [58, 58, 61], len - (58 :: 58 :: 61 :: 32 :: 83 :: 69 :: 81 :: 85 :: 69 :: 78 :: 67 :: 69 :: 32 :: 40 :: 83 :: 73 :: 90 :: 69 :: 32 :: 40 :: t).length) :: (5, [83, 69, 81, 85, 69, 78, 67, 69], len - (83 :: 69 :: 81 :: 85 :: 69 :: 78 :: 67 :: 69 :: 32 :: 40 :: 83 :: 73 :: 90 :: 69 :: 32 :: 40 :: t).length) :: (6, [40], len - (40 :: 83 :: 73 :: 90 :: 69 :: 32 :: 40 :: t).length) :: (5, [83, 73, 90, 69], len - (83 :: 73 :: 90 :: 69 :: 32 :: 40 :: t).length) :: (6, [40], len - (40 :: t).length) :: ts
theorem pcX1 {N len : Nat} {t : List Nat} {ts : List Tok} (h : Tks (N + 10) len t ts) : Tks (N + 10) len (44 :: 32 :: 46 :: 46 :: 46 :: 41 :: 32 :: 66 :: 32 :: 58 :: 58 :: 61 :: 32 :: 83 :: 69 :: 81 :: 85 :: 69 :: 78 :: 67 :: 69 :: 32 :: 40 :: 83 :: 73 :: 90 :: 69 :: 32 :: 40 :: t) (pcX1T len t ts) := by
  unfold pcX1T
  refine .one (wht_no rfl rfl) (tk_sign (sg_cm _) (by decide) rfl rfl rfl rfl (by decide) (by decide) (by decide)) ?_
  refine .one (wht_ws rfl rfl) (tk_sign (sg_ddd _) (by decide) rfl rfl rfl rfl (by decide) (by decide) (by decide)) ?_
  refine .one (wht_no rfl rfl) (tk_sign (sg_rp _) (by decide) rfl rfl rfl rfl (by decide) (by decide) (by decide)) ?_
  refine .one (wht_ws rfl rfl) (tk_name (n := 1) rfl rfl rfl rfl (by decide +kernel) (by decide +kernel)) ?_
  refine .one (wht_ws rfl rfl) (tk_sign (sg_asg _) (by decide) rfl rfl rfl rfl (by decide) (by decide) (by decide)) ?_
  refine .one (wht_ws rfl rfl) (tk_name (n := 8) rfl rfl rfl rfl (by decide +kernel) (by decide +kernel)) ?_
  refine .one (wht_ws rfl rfl) (tk_sign (sg_lp _) (by decide) rfl rfl rfl rfl (by decide) (by decide) (by decide)) ?_
  refine .one (wht_no rfl rfl) (tk_name (n := 4) rfl rfl rfl rfl (by decide +kernel) (by decide +kernel)) ?_
  refine .one (wht_ws rfl rfl) (tk_sign (sg_lp _) (by decide) rfl rfl rfl rfl (by decide) (by decide) (by decide)) ?_
  exact h
theorem pcY1 (N len : Nat) : Tks (N + 10) len (44 :: 32 :: 46 :: 46 :: 46 :: 41 :: 41 :: 32 :: 79 :: 70 :: 32 :: 78 :: 85 :: 76 :: 76 :: 32 :: 67 :: 32 :: 58 :: 58 :: 61 :: 32 :: 73 :: 78 :: 84 :: 69 :: 71 :: 69 :: 82 :: 32 :: 69 :: 78 :: 68 :: []) [(6, [44], len - (44 :: 32 :: 46 :: 46 :: 46 :: 41 :: 41 :: 32 :: 79 :: 70 :: 32 :: 78 :: 85 :: 76 :: 76 :: 32 :: 67 :: 32 :: 58 :: 58 :: 61 :: 32 :: 73 :: 78 :: 84 :: 69 :: 71 :: 69 :: 82 :: 32 :: 69 :: 78 :: 68 :: []).length), (6, [46, 46, 46], len - (46 :: 46 :: 46 :: 41 :: 41 :: 32 :: 79 :: 70 :: 32 :: 78 :: 85 :: 76 :: 76 :: 32 :: 67 :: 32 :: 58 :: 58 :: 61 :: 32 :: 73 :: 78 :: 84 :: 69 :: 71 :: 69 :: 82 :: 32 :: 69 :: 78 :: 68 :: []).length), (6, [41], len - (41 :: 41 :: 32 :: 79 :: 70 :: 32 :: 78 :: 85 :: 76 :: 76 :: 32 :: 67 :: 32 :: 58 :: 58 :: 61 :: 32 :: 73 :: 78 :: 84 :: 69 :: 71 :: 69 :: 82 :: 32 :: 69 :: 78 :: 68 :: []).length), (6, [41], len - (41 :: 32 :: 79 :: 70 :: 32 :: 78 :: 85 :: 76 :: 76 :: 32 :: 67 :: 32 :: 58 :: 58 :: 61 :: 32 :: 73 :: 78 :: 84 :: 69 :: 71 :: 69 :: 82 :: 32 :: 69 :: 78 :: 68 :: []).length), (5, [79, 70], len - (79 :: 70 :: 32 :: 78 :: 85 :: 76 :: 76 :: 32 :: 67 :: 32 :: 58 :: 58 :: 61 :: 32 :: 73 :: 78 :: 84 :: 69 :: 71 :: 69 :: 82 :: 32 :: 69 :: 78 :: 68 :: []).length), (5, [78, 85, 76, 76], len - (78 :: 85 :: 76 :: 76 :: 32 :: 67 :: 32 :: 58 :: 58 :: 61 :: 32 :: 73 :: 78 :: 84 :: 69 :: 71 :: 69 :: 82 :: 32 :: 69 :: 78 :: 68 :: []).length), (1, [67], len - (67 :: 32 :: 58 :: 58 :: 61 :: 32 :: 73 :: 78 :: 84 :: 69 :: 71 :: 69 :: 82 :: 32 :: 69 :: 78 :: 68 :: []).length), (6, [58, 58, 61], len - (58 :: 58 :: 61 :: 32 :: 73 :: 78 :: 84 :: 69 :: 71 :: 69 :: 82 :: 32 :: 69 :: 78 :: 68 :: []).length), (5, [73, 78, 84, 69, 71, 69, 82], len - (73 :: 78 :: 84 :: 69 :: 71 :: 69 :: 82 :: 32 :: 69 :: 78 :: 68 :: []).length), (5, [69, 78, 68], len - (69 :: 78 :: 68 :: []).length), (0, [], len)] := by
  refine .one (wht_no rfl rfl) (tk_sign (sg_cm _) (by decide) rfl rfl rfl rfl (by decide) (by decide) (by decide)) ?_
  refine .one (wht_ws rfl rfl) (tk_sign (sg_ddd _) (by decide) rfl rfl rfl rfl (by decide) (by decide) (by decide)) ?_
  refine .one (wht_no rfl rfl) (tk_sign (sg_rp _) (by decide) rfl rfl rfl rfl (by decide) (by decide) (by decide)) ?_
  refine .one (wht_no rfl rfl) (tk_sign (sg_rp _) (by decide) rfl rfl rfl rfl (by decide) (by decide) (by decide)) ?_
  refine .one (wht_ws rfl rfl) (tk_name (n := 2) rfl rfl rfl rfl (by decide +kernel) (by decide +kernel)) ?_
  refine .one (wht_ws rfl rfl) (tk_name (n := 4) rfl rfl rfl rfl (by decide +kernel) (by decide +kernel)) ?_
  refine .one (wht_ws rfl rfl) (tk_name (n := 1) rfl rfl rfl rfl (by decide +kernel) (by decide +kernel)) ?_
  refine .one (wht_ws rfl rfl) (tk_sign (sg_asg _) (by decide) rfl rfl rfl rfl (by decide) (by decide) (by decide)) ?_
  refine .one (wht_ws rfl rfl) (tk_name (n := 7) rfl rfl rfl rfl (by decide +kernel) (by decide +kernel)) ?_
  refine .one (wht_ws rfl rfl) (tk_name (n := 3) rfl rfl rfl rfl (by decide +kernel) (by decide +kernel)) ?_
  exact .fin rfl
def pcMX1T (len : Nat) (t : List Nat) (ts : List Tok) : List Tok := (6, [46, 46], len - (46 :: 46 :: 77 :: 65 :: 88 :: 44 :: 32 :: 46 :: 46 :: 46 :: 41 :: 32 :: 66 :: 32 :: 58 :: 58 :: 61 :: 32 :: 83 :: 69 :: 81 :: 85 :: 69 :: 78 :: 67 :: 69 :: 32 :: 40 :: 83 :: 73 :: 90 :: 69 :: 32 :: 40 :: t).length) :: (5, [77, 65, 88], len - (77 :: 65 :: 88 :: 44 :: 32 :: 46 :: 46 :: 46 :: 41 :: 32 :: 66 :: 32 :: 58 :: 58 :: 61 :: 32 :: 83 :: 69 :: 81 :: 85 :: 69 :: 78 :: 67 :: 69 :: 32 :: 40 :: 83 :: 73 :: 90 :: 69 :: 32 :: 40 :: t).length) :: (6, [44], len - (44 :: 32 :: 46 :: 46 :: 46 :: 41 :: 32 :: 66 :: 32 :: 58 :: 58 :: 61 :: 32 :: 83 :: 69 :: 81 :: 85 :: 69 :: 78 :: 67 :: 69 :: 32 :: 40 :: 83 :: 73 :: 90 :: 69 :: 32 :: 40 :: t).length) :: (6, [46, 46, 46], len - (46 :: 46 :: 46 :: 41 :: 32 :: 66 :: 32 :: 58 :: 58 :: 61 :: 32 :: 83 :: 69 :: 81 :: 85 :: 69 :: 78 :: 67 :: 69 :: 32 :: 40 :: 83 :: 73 :: 90 :: 69 :: 32 :: 40 :: t).length) :: (6, [41], len - (41 :: 32 :: 66 :: 32 :: 58 :: 58 :: 61 :: 32 :: 83 :: 69 :: 81 :: 85 :: 69 :: 78 :: 67 :: 69 :: 32 :: 40 :: 83 :: 73 :: 90 :: 69 :: 32 :: 40 :: t).length) :: (1, [66], len - (66 :: 32 :: 58 :: 58 :: 61 :: 32 :: 83 :: 69 :: 81 :: 85 :: 69 :: 78 :: 67 :: 69 :: 32 :: 40 :: 83 :: 73 :: 90 :: 69 :: 32 :: 40 :: t).length) :: (6, [58, 58, 61], len - (58 :: 58 :: 61 :: 32 :: 83 :: 69 :: 81 :: 85 :: 69 :: 78 :: 67 :: 69 :: 32 :: 40 :: 83 :: 73 :: 90 :: 69 :: 32 :: 40 :: t).length) :: (5, [83, 69, 81, 85, 69, 78, 67, 69], len - (83 :: 69 :: 81 :: 85 :: 69 :: 78 :: 67 :: 69 :: 32 :: 40 :: 83 :: 73 :: 90 :: 69 :: 32 :: 40 :: t).length) :: (6, [40], len - (40 :: 83 :: 73 :: 90 :: 69 :: 32 :: 40 :: t).length) :: (5, [83, 73, 90, 69], len - (83 :: 73 :: 90 :: 69 :: 32 :: 40 :: t).length) :: (6, [40], len - (40 :: t).length) :: ts
theorem pcMX1 {N len : Nat} {t : List Nat} {ts : List Tok} (h : Tks (N + 10) len t ts) : Tks (N + 10) len (46 :: 46 :: 77 :: 65 :: 88 :: 44 :: 32 :: 46 :: 46 :: 46 :: 41 :: 32 :: 66 :: 32 :: 58 :: 58 :: 61 :: 32 :: 83 :: 69 :: 81 :: 85 :: 69 :: 78 :: 67 :: 69 :: 32 :: 40 :: 83 :: 73 :: 90 :: 69 :: 32 :: 40 :: t) (pcMX1T len t ts) := by
  unfold pcMX1T
  refine .one (wht_no rfl rfl) (tk_sign (n := 2) (sg_dd _ _ (by decide)) (by decide) rfl rfl rfl rfl (by decide) (by decide) (by decide)) ?_
  refine .one (wht_no rfl rfl) (tk_name (n := 3) rfl rfl rfl rfl (by decide +kernel) (by decide +kernel)) ?_
  refine .one (wht_no rfl rfl) (tk_sign (sg_cm _) (by decide) rfl rfl rfl rfl (by decide) (by decide) (by decide)) ?_
  refine .one (wht_ws rfl rfl) (tk_sign (sg_ddd _) (by decide) rfl rfl rfl rfl (by decide) (by decide) (by decide)) ?_
  refine .one (wht_no rfl rfl) (tk_sign (sg_rp _) (by decide) rfl rfl rfl rfl (by decide) (by decide) (by decide)) ?_
  refine .one (wht_ws rfl rfl) (tk_name (n := 1) rfl rfl rfl rfl (by decide +kernel) (by decide +kernel)) ?_
  refine .one (wht_ws rfl rfl) (tk_sign (sg_asg _) (by decide) rfl rfl rfl rfl (by decide) (by decide) (by decide)) ?_
  refine .one (wht_ws rfl rfl) (tk_name (n := 8) rfl rfl rfl rfl (by decide +kernel) (by decide +kernel)) ?_
  refine .one (wht_ws rfl rfl) (tk_sign (sg_lp _) (by decide) rfl rfl rfl rfl (by decide) (by decide) (by decide)) ?_
  refine .one (wht_no rfl rfl) (tk_name (n := 4) rfl rfl rfl rfl (by decide +kernel) (by decide +kernel)) ?_
  refine .one (wht_ws rfl rfl) (tk_sign (sg_lp _) (by decide) rfl rfl rfl rfl (by decide) (by decide) (by decide)) ?_
  exact h
theorem pcMY1 (N len : Nat) : Tks (N + 10) len (46 :: 46 :: 77 :: 65 :: 88 :: 44 :: 32 :: 46 :: 46 :: 46 :: 41 :: 41 :: 32 :: 79 :: 70 :: 32 :: 78 :: 85 :: 76 :: 76 :: 32 :: 67 :: 32 :: 58 :: 58 :: 61 :: 32 :: 73 :: 78 :: 84 :: 69 :: 71 :: 69 :: 82 :: 32 :: 69 :: 78 :: 68 :: []) [(6, [46, 46], len - (46 :: 46 :: 77 :: 65 :: 88 :: 44 :: 32 :: 46 :: 46 :: 46 :: 41 :: 41 :: 32 :: 79 :: 70 :: 32 :: 78 :: 85 :: 76 :: 76 :: 32 :: 67 :: 32 :: 58 :: 58 :: 61 :: 32 :: 73 :: 78 :: 84 :: 69 :: 71 :: 69 :: 82 :: 32 :: 69 :: 78 :: 68 :: []).length), (5, [77, 65, 88], len - (77 :: 65 :: 88 :: 44 :: 32 :: 46 :: 46 :: 46 :: 41 :: 41 :: 32 :: 79 :: 70 :: 32 :: 78 :: 85 :: 76 :: 76 :: 32 :: 67 :: 32 :: 58 :: 58 :: 61 :: 32 :: 73 :: 78 :: 84 :: 69 :: 71 :: 69 :: 82 :: 32 :: 69 :: 78 :: 68 :: []).length), (6, [44], len - (44 :: 32 :: 46 :: 46 :: 46 :: 41 :: 41 :: 32 :: 79 :: 70 :: 32 :: 78 :: 85 :: 76 :: 76 :: 32 :: 67 :: 32 :: 58 :: 58 :: 61 :: 32 :: 73 :: 78 :: 84 :: 69 :: 71 :: 69 :: 82 :: 32 :: 69 :: 78 :: 68 :: []).length), (6, [46, 46, 46], len - (46 :: 46 :: 46 :: 41 :: 41 :: 32 :: 79 :: 70 :: 32 :: 78 :: 85 :: 76 :: 76 :: 32 :: 67 :: 32 :: 58 :: 58 :: 61 :: 32 :: 73 :: 78 :: 84 :: 69 :: 71 :: 69 :: 82 :: 32 :: 69 :: 78 :: 68 :: []).length), (6, [41], len - (41 :: 41 :: 32 :: 79 :: 70 :: 32 :: 78 :: 85 :: 76 :: 76 :: 32 :: 67 :: 32 :: 58 :: 58 :: 61 :: 32 :: 73 :: 78 :: 84 :: 69 :: 71 :: 69 :: 82 :: 32 :: 69 :: 78 :: 68 :: []).length), (6, [41], len - (41 :: 32 :: 79 :: 70 :: 32 :: 78 :: 85 :: 76 :: 76 :: 32 :: 67 :: 32 :: 58 :: 58 :: 61 :: 32 :: 73 :: 78 :: 84 :: 69 :: 71 :: 69 :: 82 :: 32 :: 69 :: 78 :: 68 :: []).length), (5, [79, 70], len - (79 :: 70 :: 32 :: 78 :: 85 :: 76 :: 76 :: 32 :: 67 :: 32 :: 58 :: 58 :: 61 :: 32 :: 73 :: 78 :: 84 :: 69 :: 71 :: 69 :: 82 :: 32 :: 69 :: 78 :: 68 :: []).length), (5, [78, 85, 76, 76], len - (78 :: 85 :: 76 :: 76 :: 32 :: 67 :: 32 :: 58 :: 58 :: 61 :: 32 :: 73 :: 78 :: 84 :: 69 :: 71 :: 69 :: 82 :: 32 :: 69 :: 78 :: 68 :: []).length), (1, [67], len - (67 :: 32 :: 58 :: 58 :: 61 :: 32 :: 73 :: 78 :: 84 :: 69 :: 71 :: 69 :: 82 :: 32 :: 69 :: 78 :: 68 :: []).length), (6, [58, 58, 61], len - (58 :: 58 :: 61 :: 32 :: 73 :: 78 :: 84 :: 69 :: 71 :: 69 :: 82 :: 32 :: 69 :: 78 :: 68 :: []).length), (5, [73, 78, 84, 69, 71, 69, 82], len - (73 :: 78 :: 84 :: 69 :: 71 :: 69 :: 82 :: 32 :: 69 :: 78 :: 68 :: []).length), (5, [69, 78, 68], len - (69 :: 78 :: 68 :: []).length), (0, [], len)] := by
  refine .one (wht_no rfl rfl) (tk_sign (n := 2) (sg_dd _ _ (by decide)) (by decide) rfl rfl rfl rfl (by decide) (by decide) (by decide)) ?_
  refine .one (wht_no rfl rfl) (tk_name (n := 3) rfl rfl rfl rfl (by decide +kernel) (by decide +kernel)) ?_
  refine .one (wht_no rfl rfl) (tk_sign (sg_cm _) (by decide) rfl rfl rfl rfl (by decide) (by decide) (by decide)) ?_
  refine .one (wht_ws rfl rfl) (tk_sign (sg_ddd _) (by decide) rfl rfl rfl rfl (by decide) (by decide) (by decide)) ?_
  refine .one (wht_no rfl rfl) (tk_sign (sg_rp _) (by decide) rfl rfl rfl rfl (by decide) (by decide) (by decide)) ?_
  refine .one (wht_no rfl rfl) (tk_sign (sg_rp _) (by decide) rfl rfl rfl rfl (by decide) (by decide) (by decide)) ?_
  refine .one (wht_ws rfl rfl) (tk_name (n := 2) rfl rfl rfl rfl (by decide +kernel) (by decide +kernel)) ?_
  refine .one (wht_ws rfl rfl) (tk_name (n := 4) rfl rfl rfl rfl (by decide +kernel) (by decide +kernel)) ?_
  refine .one (wht_ws rfl rfl) (tk_name (n := 1) rfl rfl rfl rfl (by decide +kernel) (by decide +kernel)) ?_
  refine .one (wht_ws rfl rfl) (tk_sign (sg_asg _) (by decide) rfl rfl rfl rfl (by decide) (by decide) (by decide)) ?_
  refine .one (wht_ws rfl rfl) (tk_name (n := 7) rfl rfl rfl rfl (by decide +kernel) (by decide +kernel)) ?_
  refine .one (wht_ws rfl rfl) (tk_name (n := 3) rfl rfl rfl rfl (by decide +kernel) (by decide +kernel)) ?_
  exact .fin rfl
def pcNX1T (len : Nat) (t : List Nat) (ts : List Tok) : List Tok := (5, [77, 73, 78], len - (77 :: 73 :: 78 :: 44 :: 32 :: 46 :: 46 :: 46 :: 41 :: 32 :: 66 :: 32 :: 58 :: 58 :: 61 :: 32 :: 83 :: 69 :: 81 :: 85 :: 69 :: 78 :: 67 :: 69 :: 32 :: 40 :: 83 :: 73 :: 90 :: 69 :: 32 :: 40 :: t).length) :: (6, [44], len - (44 :: 32 :: 46 :: 46 :: 46 :: 41 :: 32 :: 66 :: 32 :: 58 :: 58 :: 61 :: 32 :: 83 :: 69 :: 81 :: 85 :: 69 :: 78 :: 67 :: 69 :: 32 :: 40 :: 83 :: 73 :: 90 :: 69 :: 32 :: 40 :: t).length) :: (6, [46, 46, 46], len - (46 :: 46 :: 46 :: 41 :: 32 :: 66 :: 32 :: 58 :: 58 :: 61 :: 32 :: 83 :: 69 :: 81 :: 85 :: 69 :: 78 :: 67 :: 69 :: 32 :: 40 :: 83 :: 73 :: 90 :: 69 :: 32 :: 40 :: t).length) :: (6, [41], len - (41 :: 32 :: 66 :: 32 :: 58 :: 58 :: 61 :: 32 :: 83 :: 69 :: 81 :: 85 :: 69 :: 78 :: 67 :: 69 :: 32 :: 40 :: 83 :: 73 :: 90 :: 69 :: 32 :: 40 :: t).length) :: (1, [66], len - (66 :: 32 :: 58 :: 58 :: 61 :: 32 :: 83 :: 69 :: 81 :: 85 :: 69 :: 78 :: 67 :: 69 :: 32 :: 40 :: 83 :: 73 :: 90 :: 69 :: 32 :: 40 :: t).length) :: (6, [58, 58, 61], len - (58 :: 58 :: 61 :: 32 :: 83 :: 69 :: 81 :: 85 :: 69 :: 78 :: 67 :: 69 :: 32 :: 40 :: 83 :: 73 :: 90 :: 69 :: 32 :: 40 :: t).length) :: (5, [83, 69, 81, 85, 69, 78, 67, 69], len - (83 :: 69 :: 81 :: 85 :: 69 :: 78 :: 67 :: 69 :: 32 :: 40 :: 83 :: 73 :: 90 :: 69 :: 32 :: 40 :: t).length) :: (6, [40], len - (40 :: 83 :: 73 :: 90 :: 69 :: 32 :: 40 :: t).length) :: (5, [83, 73, 90, 69], len - (83 :: 73 :: 90 :: 69 :: 32 :: 40 :: t).length) :: (6, [40], len - (40 :: t).length) :: ts
theorem pcNX1 {N len : Nat} {t : List Nat} {ts : List Tok} (h : Tks (N + 10) len t ts) : Tks (N + 10) len (77 :: 73 :: 78 :: 44 :: 32 :: 46 :: 46 :: 46 :: 41 :: 32 :: 66 :: 32 :: 58 :: 58 :: 61 :: 32 :: 83 :: 69 :: 81 :: 85 :: 69 :: 78 :: 67 :: 69 :: 32 :: 40 :: 83 :: 73 :: 90 :: 69 :: 32 :: 40 :: t) (pcNX1T len t ts) := by
  unfold pcNX1T
  refine .one (wht_no rfl rfl) (tk_name (n := 3) rfl rfl rfl rfl (by decide +kernel) (by decide +kernel)) ?_
  refine .one (wht_no rfl rfl) (tk_sign (sg_cm _) (by decide) rfl rfl rfl rfl (by decide) (by decide) (by decide)) ?_
  refine .one (wht_ws rfl rfl) (tk_sign (sg_ddd _) (by decide) rfl rfl rfl rfl (by decide) (by decide) (by decide)) ?_
  refine .one (wht_no rfl rfl) (tk_sign (sg_rp _) (by decide) rfl rfl rfl rfl (by decide) (by decide) (by decide)) ?_
  refine .one (wht_ws rfl rfl) (tk_name (n := 1) rfl rfl rfl rfl (by decide +kernel) (by decide +kernel)) ?_
  refine .one (wht_ws rfl rfl) (tk_sign (sg_asg _) (by decide) rfl rfl rfl rfl (by decide) (by decide) (by decide)) ?_
  refine .one (wht_ws rfl rfl) (tk_name (n := 8) rfl rfl rfl rfl (by decide +kernel) (by decide +kernel)) ?_
  refine .one (wht_ws rfl rfl) (tk_sign (sg_lp _) (by decide) rfl rfl rfl rfl (by decide) (by decide) (by decide)) ?_
  refine .one (wht_no rfl rfl) (tk_name (n := 4) rfl rfl rfl rfl (by decide +kernel) (by decide +kernel)) ?_
  refine .one (wht_ws rfl rfl) (tk_sign (sg_lp _) (by decide) rfl rfl rfl rfl (by decide) (by decide) (by decide)) ?_
  exact h
theorem pcNY1 (N len : Nat) : Tks (N + 10) len (77 :: 73 :: 78 :: 44 :: 32 :: 46 :: 46 :: 46 :: 41 :: 41 :: 32 :: 79 :: 70 :: 32 :: 78 :: 85 :: 76 :: 76 :: 32 :: 67 :: 32 :: 58 :: 58 :: 61 :: 32 :: 73 :: 78 :: 84 :: 69 :: 71 :: 69 :: 82 :: 32 :: 69 :: 78 :: 68 :: []) [(5, [77, 73, 78], len - (77 :: 73 :: 78 :: 44 :: 32 :: 46 :: 46 :: 46 :: 41 :: 41 :: 32 :: 79 :: 70 :: 32 :: 78 :: 85 :: 76 :: 76 :: 32 :: 67 :: 32 :: 58 :: 58 :: 61 :: 32 :: 73 :: 78 :: 84 :: 69 :: 71 :: 69 :: 82 :: 32 :: 69 :: 78 :: 68 :: []).length), (6, [44], len - (44 :: 32 :: 46 :: 46 :: 46 :: 41 :: 41 :: 32 :: 79 :: 70 :: 32 :: 78 :: 85 :: 76 :: 76 :: 32 :: 67 :: 32 :: 58 :: 58 :: 61 :: 32 :: 73 :: 78 :: 84 :: 69 :: 71 :: 69 :: 82 :: 32 :: 69 :: 78 :: 68 :: []).length), (6, [46, 46, 46], len - (46 :: 46 :: 46 :: 41 :: 41 :: 32 :: 79 :: 70 :: 32 :: 78 :: 85 :: 76 :: 76 :: 32 :: 67 :: 32 :: 58 :: 58 :: 61 :: 32 :: 73 :: 78 :: 84 :: 69 :: 71 :: 69 :: 82 :: 32 :: 69 :: 78 :: 68 :: []).length), (6, [41], len - (41 :: 41 :: 32 :: 79 :: 70 :: 32 :: 78 :: 85 :: 76 :: 76 :: 32 :: 67 :: 32 :: 58 :: 58 :: 61 :: 32 :: 73 :: 78 :: 84 :: 69 :: 71 :: 69 :: 82 :: 32 :: 69 :: 78 :: 68 :: []).length), (6, [41], len - (41 :: 32 :: 79 :: 70 :: 32 :: 78 :: 85 :: 76 :: 76 :: 32 :: 67 :: 32 :: 58 :: 58 :: 61 :: 32 :: 73 :: 78 :: 84 :: 69 :: 71 :: 69 :: 82 :: 32 :: 69 :: 78 :: 68 :: []).length), (5, [79, 70], len - (79 :: 70 :: 32 :: 78 :: 85 :: 76 :: 76 :: 32 :: 67 :: 32 :: 58 :: 58 :: 61 :: 32 :: 73 :: 78 :: 84 :: 69 :: 71 :: 69 :: 82 :: 32 :: 69 :: 78 :: 68 :: []).length), (5, [78, 85, 76, 76], len - (78 :: 85 :: 76 :: 76 :: 32 :: 67 :: 32 :: 58 :: 58 :: 61 :: 32 :: 73 :: 78 :: 84 :: 69 :: 71 :: 69 :: 82 :: 32 :: 69 :: 78 :: 68 :: []).length), (1, [67], len - (67 :: 32 :: 58 :: 58 :: 61 :: 32 :: 73 :: 78 :: 84 :: 69 :: 71 :: 69 :: 82 :: 32 :: 69 :: 78 :: 68 :: []).length), (6, [58, 58, 61], len - (58 :: 58 :: 61 :: 32 :: 73 :: 78 :: 84 :: 69 :: 71 :: 69 :: 82 :: 32 :: 69 :: 78 :: 68 :: []).length), (5, [73, 78, 84, 69, 71, 69, 82], len - (73 :: 78 :: 84 :: 69 :: 71 :: 69 :: 82 :: 32 :: 69 :: 78 :: 68 :: []).length), (5, [69, 78, 68], len - (69 :: 78 :: 68 :: []).length), (0, [], len)] := by
  refine .one (wht_no rfl rfl) (tk_name (n := 3) rfl rfl rfl rfl (by decide +kernel) (by decide +kernel)) ?_
  refine .one (wht_no rfl rfl) (tk_sign (sg_cm _) (by decide) rfl rfl rfl rfl (by decide) (by decide) (by decide)) ?_
  refine .one (wht_ws rfl rfl) (tk_sign (sg_ddd _) (by decide) rfl rfl rfl rfl (by decide) (by decide) (by decide)) ?_
  refine .one (wht_no rfl rfl) (tk_sign (sg_rp _) (by decide) rfl rfl rfl rfl (by decide) (by decide) (by decide)) ?_
  refine .one (wht_no rfl rfl) (tk_sign (sg_rp _) (by decide) rfl rfl rfl rfl (by decide) (by decide) (by decide)) ?_
  refine .one (wht_ws rfl rfl) (tk_name (n := 2) rfl rfl rfl rfl (by decide +kernel) (by decide +kernel)) ?_
  refine .one (wht_ws rfl rfl) (tk_name (n := 4) rfl rfl rfl rfl (by decide +kernel) (by decide +kernel)) ?_
  refine .one (wht_ws rfl rfl) (tk_name (n := 1) rfl rfl rfl rfl (by decide +kernel) (by decide +kernel)) ?_
  refine .one (wht_ws rfl rfl) (tk_sign (sg_asg _) (by decide) rfl rfl rfl rfl (by decide) (by decide) (by decide)) ?_
  refine .one (wht_ws rfl rfl) (tk_name (n := 7) rfl rfl rfl rfl (by decide +kernel) (by decide +kernel)) ?_
  refine .one (wht_ws rfl rfl) (tk_name (n := 3) rfl rfl rfl rfl (by decide +kernel) (by decide +kernel)) ?_
  exact .fin rfl
/-! ### the texts -/
def pcS1 : List Nat := [77, 32, 68, 69, 70, 73, 78, 73, 84, 73, 79, 78, 83, 32, 58, 58, 61, 32, 66, 69, 71, 73, 78, 32, 65, 32, 58, 58, 61, 32, 73, 78, 84, 69, 71, 69, 82, 32, 40]
def pcS2 : List Nat := [41, 32, 66, 32, 58, 58, 61, 32, 83, 69, 81, 85, 69, 78, 67, 69, 32, 40, 83, 73, 90, 69, 32, 40]
def pcS3 : List Nat := [41, 41, 32, 79, 70, 32, 78, 85, 76, 76, 32, 67, 32, 58, 58, 61, 32, 73, 78, 84, 69, 71, 69, 82, 32, 69, 78, 68]
def wrT (f : Nat) (a b : Int) : List Nat := match f with
  | 0 => numC a ++ ([46, 46] ++ numC b)
  | 1 => numC a ++ ([46, 46] ++ numC a)
  | 2 => numC a
  | 3 => numC a ++ [46, 46, 77, 65, 88]
  | 4 => [77, 73, 78, 46, 46] ++ numC b
  | _ => [77, 73, 78]
def dtT (d : Bool) : List Nat := bif d then [44, 32, 46, 46, 46] else []
def pcText (f : Nat) (d : Bool) (a b : Int) : List Nat := pcS1 ++ (wrT f a b ++ (dtT d ++ (pcS2 ++ (wrT f a b ++ (dtT d ++ pcS3)))))
def prT (f : Nat) (a b : Int) : List Nat := match f with
  | 0 => bif eqF a b then numC a else numC a ++ ([46, 46] ++ numC b)
  | 1 => numC a
  | 2 => numC a
  | 3 => numC a ++ [46, 46, 77, 65, 88]
  | 4 => [77, 73, 78, 46, 46] ++ numC b
  | _ => [77, 73, 78, 46, 46, 77, 65, 88]
def pcWant (f : Nat) (d : Bool) (a b : Int) : List Nat := [77, 32, 68, 69, 70, 73, 78, 73, 84, 73, 79, 78, 83, 32, 69, 88, 80, 76, 73, 67, 73, 84, 32, 84, 65, 71, 83, 32, 58, 58, 61, 32, 66, 69, 71, 73, 78, 10, 65, 32, 58, 58, 61, 32, 73, 78, 84, 69, 71, 69, 82, 32, 40] ++ (prT f a b ++ (dtT d ++ ([41, 10, 66, 32, 58, 58, 61, 32, 83, 69, 81, 85, 69, 78, 67, 69, 32, 40, 83, 73, 90, 69, 32, 40] ++ (prT f a b ++ (dtT d ++ [41, 41, 32, 79, 70, 32, 78, 85, 76, 76, 10, 67, 32, 58, 58, 61, 32, 73, 78, 84, 69, 71, 69, 82, 10, 69, 78, 68, 10])))))
def pcC (f : Nat) (d : Bool) (a b : Int) : ConS := match f with
  | 0 => ⟨true, true, true, d, a, b⟩
  | 1 => ⟨true, true, true, d, a, a⟩
  | 2 => ⟨true, true, true, d, a, a⟩
  | 3 => ⟨true, true, false, d, a, 0⟩
  | 4 => ⟨true, false, true, d, 0, b⟩
  | _ => ⟨true, false, false, d, 0, 0⟩
def pcMod (c : ConS) : ModS := ⟨[77], 0, [[65], [66], [67]], [0, 1, 3], [⟨2, [], false, 0, 0, c, [], [], 0, false, 0⟩, ⟨10, [], false, 0, 0, c, [], [], 0, false, 2⟩, ⟨4, [], false, 0, 0, conZ, [], [], 0, false, 0⟩, ⟨2, [], false, 0, 0, conZ, [], [], 0, false, 0⟩]⟩
def ParT (N len f : Nat) (d : Bool) (a b : Int) : Prop := ∃ ts, Tks (N + 10) len (pcText f d a b) ts ∧ modP (typP 2) ts = some (pcMod (pcC f d (numI (numC a)) (numI (numC b))))
section
variable {a b : Int} (h1 : In64 a) (h2 : In64 b) (N len : Nat)
include h1 h2
theorem par_00 : ParT N len 0 false a b := by
  have e : pcText 0 false a b = 77 :: 32 :: 68 :: 69 :: 70 :: 73 :: 78 :: 73 :: 84 :: 73 :: 79 :: 78 :: 83 :: 32 :: 58 :: 58 :: 61 :: 32 :: 66 :: 69 :: 71 :: 73 :: 78 :: 32 :: 65 :: 32 :: 58 :: 58 :: 61 :: 32 :: 73 :: 78 :: 84 :: 69 :: 71 :: 69 :: 82 :: 32 :: 40 :: (numC a ++ 46 :: 46 :: (numC b ++ (41 :: 32 :: 66 :: 32 :: 58 :: 58 :: 61 :: 32 :: 83 :: 69 :: 81 :: 85 :: 69 :: 78 :: 67 :: 69 :: 32 :: 40 :: 83 :: 73 :: 90 :: 69 :: 32 :: 40 :: (numC a ++ 46 :: 46 :: (numC b ++ (41 :: 41 :: 32 :: 79 :: 70 :: 32 :: 78 :: 85 :: 76 :: 76 :: 32 :: 67 :: 32 :: 58 :: 58 :: 61 :: 32 :: 73 :: 78 :: 84 :: 69 :: 71 :: 69 :: 82 :: 32 :: 69 :: 78 :: 68 :: [])))))) := by
    unfold pcText pcS1 pcS2 pcS3 wrT dtT
    simp only [cond, List.append_assoc, List.cons_append, List.nil_append, List.append_nil]
  unfold ParT
  rw [e]
  exact ⟨_, pcA (num_stepC h1 rfl rfl (pcD (dd_nextC h2 rfl rfl) (num_stepC h2 rfl rfl (pcX0 (num_stepC h1 rfl rfl (pcD (dd_nextC h2 rfl rfl) (num_stepC h2 rfl rfl (pcY0 N len)))))))), by kernel_rfl⟩
theorem par_10 : ParT N len 1 false a b := by
  have e : pcText 1 false a b = 77 :: 32 :: 68 :: 69 :: 70 :: 73 :: 78 :: 73 :: 84 :: 73 :: 79 :: 78 :: 83 :: 32 :: 58 :: 58 :: 61 :: 32 :: 66 :: 69 :: 71 :: 73 :: 78 :: 32 :: 65 :: 32 :: 58 :: 58 :: 61 :: 32 :: 73 :: 78 :: 84 :: 69 :: 71 :: 69 :: 82 :: 32 :: 40 :: (numC a ++ 46 :: 46 :: (numC a ++ (41 :: 32 :: 66 :: 32 :: 58 :: 58 :: 61 :: 32 :: 83 :: 69 :: 81 :: 85 :: 69 :: 78 :: 67 :: 69 :: 32 :: 40 :: 83 :: 73 :: 90 :: 69 :: 32 :: 40 :: (numC a ++ 46 :: 46 :: (numC a ++ (41 :: 41 :: 32 :: 79 :: 70 :: 32 :: 78 :: 85 :: 76 :: 76 :: 32 :: 67 :: 32 :: 58 :: 58 :: 61 :: 32 :: 73 :: 78 :: 84 :: 69 :: 71 :: 69 :: 82 :: 32 :: 69 :: 78 :: 68 :: [])))))) := by
    unfold pcText pcS1 pcS2 pcS3 wrT dtT
    simp only [cond, List.append_assoc, List.cons_append, List.nil_append, List.append_nil]
  unfold ParT
  rw [e]
  exact ⟨_, pcA (num_stepC h1 rfl rfl (pcD (dd_nextC h1 rfl rfl) (num_stepC h1 rfl rfl (pcX0 (num_stepC h1 rfl rfl (pcD (dd_nextC h1 rfl rfl) (num_stepC h1 rfl rfl (pcY0 N len)))))))), by kernel_rfl⟩
theorem par_20 : ParT N len 2 false a b := by
  have e : pcText 2 false a b = 77 :: 32 :: 68 :: 69 :: 70 :: 73 :: 78 :: 73 :: 84 :: 73 :: 79 :: 78 :: 83 :: 32 :: 58 :: 58 :: 61 :: 32 :: 66 :: 69 :: 71 :: 73 :: 78 :: 32 :: 65 :: 32 :: 58 :: 58 :: 61 :: 32 :: 73 :: 78 :: 84 :: 69 :: 71 :: 69 :: 82 :: 32 :: 40 :: (numC a ++ (41 :: 32 :: 66 :: 32 :: 58 :: 58 :: 61 :: 32 :: 83 :: 69 :: 81 :: 85 :: 69 :: 78 :: 67 :: 69 :: 32 :: 40 :: 83 :: 73 :: 90 :: 69 :: 32 :: 40 :: (numC a ++ (41 :: 41 :: 32 :: 79 :: 70 :: 32 :: 78 :: 85 :: 76 :: 76 :: 32 :: 67 :: 32 :: 58 :: 58 :: 61 :: 32 :: 73 :: 78 :: 84 :: 69 :: 71 :: 69 :: 82 :: 32 :: 69 :: 78 :: 68 :: [])))) := by
    unfold pcText pcS1 pcS2 pcS3 wrT dtT
    simp only [cond, List.append_assoc, List.cons_append, List.nil_append, List.append_nil]
  unfold ParT
  rw [e]
  exact ⟨_, pcA (num_stepC h1 rfl rfl (pcX0 (num_stepC h1 rfl rfl (pcY0 N len)))), by kernel_rfl⟩
theorem par_30 : ParT N len 3 false a b := by
  have e : pcText 3 false a b = 77 :: 32 :: 68 :: 69 :: 70 :: 73 :: 78 :: 73 :: 84 :: 73 :: 79 :: 78 :: 83 :: 32 :: 58 :: 58 :: 61 :: 32 :: 66 :: 69 :: 71 :: 73 :: 78 :: 32 :: 65 :: 32 :: 58 :: 58 :: 61 :: 32 :: 73 :: 78 :: 84 :: 69 :: 71 :: 69 :: 82 :: 32 :: 40 :: (numC a ++ (46 :: 46 :: 77 :: 65 :: 88 :: 41 :: 32 :: 66 :: 32 :: 58 :: 58 :: 61 :: 32 :: 83 :: 69 :: 81 :: 85 :: 69 :: 78 :: 67 :: 69 :: 32 :: 40 :: 83 :: 73 :: 90 :: 69 :: 32 :: 40 :: (numC a ++ (46 :: 46 :: 77 :: 65 :: 88 :: 41 :: 41 :: 32 :: 79 :: 70 :: 32 :: 78 :: 85 :: 76 :: 76 :: 32 :: 67 :: 32 :: 58 :: 58 :: 61 :: 32 :: 73 :: 78 :: 84 :: 69 :: 71 :: 69 :: 82 :: 32 :: 69 :: 78 :: 68 :: [])))) := by
    unfold pcText pcS1 pcS2 pcS3 wrT dtT
    simp only [cond, List.append_assoc, List.cons_append, List.nil_append, List.append_nil]
  unfold ParT
  rw [e]
  exact ⟨_, pcA (num_stepC h1 rfl rfl (pcMX0 (num_stepC h1 rfl rfl (pcMY0 N len)))), by kernel_rfl⟩
theorem par_40 : ParT N len 4 false a b := by
  have e : pcText 4 false a b = 77 :: 32 :: 68 :: 69 :: 70 :: 73 :: 78 :: 73 :: 84 :: 73 :: 79 :: 78 :: 83 :: 32 :: 58 :: 58 :: 61 :: 32 :: 66 :: 69 :: 71 :: 73 :: 78 :: 32 :: 65 :: 32 :: 58 :: 58 :: 61 :: 32 :: 73 :: 78 :: 84 :: 69 :: 71 :: 69 :: 82 :: 32 :: 40 :: (77 :: 73 :: 78 :: 46 :: 46 :: (numC b ++ (41 :: 32 :: 66 :: 32 :: 58 :: 58 :: 61 :: 32 :: 83 :: 69 :: 81 :: 85 :: 69 :: 78 :: 67 :: 69 :: 32 :: 40 :: 83 :: 73 :: 90 :: 69 :: 32 :: 40 :: (77 :: 73 :: 78 :: 46 :: 46 :: (numC b ++ (41 :: 41 :: 32 :: 79 :: 70 :: 32 :: 78 :: 85 :: 76 :: 76 :: 32 :: 67 :: 32 :: 58 :: 58 :: 61 :: 32 :: 73 :: 78 :: 84 :: 69 :: 71 :: 69 :: 82 :: 32 :: 69 :: 78 :: 68 :: [])))))) := by
    unfold pcText pcS1 pcS2 pcS3 wrT dtT
    simp only [cond, List.append_assoc, List.cons_append, List.nil_append, List.append_nil]
  unfold ParT
  rw [e]
  exact ⟨_, pcA (pcM (dd_nextC h2 rfl rfl) (num_stepC h2 rfl rfl (pcX0 (pcM (dd_nextC h2 rfl rfl) (num_stepC h2 rfl rfl (pcY0 N len)))))), by kernel_rfl⟩
theorem par_50 : ParT N len 5 false a b := by
  have e : pcText 5 false a b = 77 :: 32 :: 68 :: 69 :: 70 :: 73 :: 78 :: 73 :: 84 :: 73 :: 79 :: 78 :: 83 :: 32 :: 58 :: 58 :: 61 :: 32 :: 66 :: 69 :: 71 :: 73 :: 78 :: 32 :: 65 :: 32 :: 58 :: 58 :: 61 :: 32 :: 73 :: 78 :: 84 :: 69 :: 71 :: 69 :: 82 :: 32 :: 40 :: ((77 :: 73 :: 78 :: 41 :: 32 :: 66 :: 32 :: 58 :: 58 :: 61 :: 32 :: 83 :: 69 :: 81 :: 85 :: 69 :: 78 :: 67 :: 69 :: 32 :: 40 :: 83 :: 73 :: 90 :: 69 :: 32 :: 40 :: ((77 :: 73 :: 78 :: 41 :: 41 :: 32 :: 79 :: 70 :: 32 :: 78 :: 85 :: 76 :: 76 :: 32 :: 67 :: 32 :: 58 :: 58 :: 61 :: 32 :: 73 :: 78 :: 84 :: 69 :: 71 :: 69 :: 82 :: 32 :: 69 :: 78 :: 68 :: [])))) := by
    unfold pcText pcS1 pcS2 pcS3 wrT dtT
    simp only [cond, List.append_assoc, List.cons_append, List.nil_append, List.append_nil]
  unfold ParT
  rw [e]
  exact ⟨_, pcA (pcNX0 (pcNY0 N len)), by kernel_rfl⟩
theorem par_01 : ParT N len 0 true a b := by
  have e : pcText 0 true a b = 77 :: 32 :: 68 :: 69 :: 70 :: 73 :: 78 :: 73 :: 84 :: 73 :: 79 :: 78 :: 83 :: 32 :: 58 :: 58 :: 61 :: 32 :: 66 :: 69 :: 71 :: 73 :: 78 :: 32 :: 65 :: 32 :: 58 :: 58 :: 61 :: 32 :: 73 :: 78 :: 84 :: 69 :: 71 :: 69 :: 82 :: 32 :: 40 :: (numC a ++ 46 :: 46 :: (numC b ++ (44 :: 32 :: 46 :: 46 :: 46 :: 41 :: 32 :: 66 :: 32 :: 58 :: 58 :: 61 :: 32 :: 83 :: 69 :: 81 :: 85 :: 69 :: 78 :: 67 :: 69 :: 32 :: 40 :: 83 :: 73 :: 90 :: 69 :: 32 :: 40 :: (numC a ++ 46 :: 46 :: (numC b ++ (44 :: 32 :: 46 :: 46 :: 46 :: 41 :: 41 :: 32 :: 79 :: 70 :: 32 :: 78 :: 85 :: 76 :: 76 :: 32 :: 67 :: 32 :: 58 :: 58 :: 61 :: 32 :: 73 :: 78 :: 84 :: 69 :: 71 :: 69 :: 82 :: 32 :: 69 :: 78 :: 68 :: [])))))) := by
    unfold pcText pcS1 pcS2 pcS3 wrT dtT
    simp only [cond, List.append_assoc, List.cons_append, List.nil_append, List.append_nil]
  unfold ParT
  rw [e]
  exact ⟨_, pcA (num_stepC h1 rfl rfl (pcD (dd_nextC h2 rfl rfl) (num_stepC h2 rfl rfl (pcX1 (num_stepC h1 rfl rfl (pcD (dd_nextC h2 rfl rfl) (num_stepC h2 rfl rfl (pcY1 N len)))))))), by kernel_rfl⟩
theorem par_11 : ParT N len 1 true a b := by
  have e : pcText 1 true a b = 77 :: 32 :: 68 :: 69 :: 70 :: 73 :: 78 :: 73 :: 84 :: 73 :: 79 :: 78 :: 83 :: 32 :: 58 :: 58 :: 61 :: 32 :: 66 :: 69 :: 71 :: 73 :: 78 :: 32 :: 65 :: 32 :: 58 :: 58 :: 61 :: 32 :: 73 :: 78 :: 84 :: 69 :: 71 :: 69 :: 82 :: 32 :: 40 :: (numC a ++ 46 :: 46 :: (numC a ++ (44 :: 32 :: 46 :: 46 :: 46 :: 41 :: 32 :: 66 :: 32 :: 58 :: 58 :: 61 :: 32 :: 83 :: 69 :: 81 :: 85 :: 69 :: 78 :: 67 :: 69 :: 32 :: 40 :: 83 :: 73 :: 90 :: 69 :: 32 :: 40 :: (numC a ++ 46 :: 46 :: (numC a ++ (44 :: 32 :: 46 :: 46 :: 46 :: 41 :: 41 :: 32 :: 79 :: 70 :: 32 :: 78 :: 85 :: 76 :: 76 :: 32 :: 67 :: 32 :: 58 :: 58 :: 61 :: 32 :: 73 :: 78 :: 84 :: 69 :: 71 :: 69 :: 82 :: 32 :: 69 :: 78 :: 68 :: [])))))) := by
    unfold pcText pcS1 pcS2 pcS3 wrT dtT
    simp only [cond, List.append_assoc, List.cons_append, List.nil_append, List.append_nil]
  unfold ParT
  rw [e]
  exact ⟨_, pcA (num_stepC h1 rfl rfl (pcD (dd_nextC h1 rfl rfl) (num_stepC h1 rfl rfl (pcX1 (num_stepC h1 rfl rfl (pcD (dd_nextC h1 rfl rfl) (num_stepC h1 rfl rfl (pcY1 N len)))))))), by kernel_rfl⟩
theorem par_21 : ParT N len 2 true a b := by
  have e : pcText 2 true a b = 77 :: 32 :: 68 :: 69 :: 70 :: 73 :: 78 :: 73 :: 84 :: 73 :: 79 :: 78 :: 83 :: 32 :: 58 :: 58 :: 61 :: 32 :: 66 :: 69 :: 71 :: 73 :: 78 :: 32 :: 65 :: 32 :: 58 :: 58 :: 61 :: 32 :: 73 :: 78 :: 84 :: 69 :: 71 :: 69 :: 82 :: 32 :: 40 :: (numC a ++ (44 :: 32 :: 46 :: 46 :: 46 :: 41 :: 32 :: 66 :: 32 :: 58 :: 58 :: 61 :: 32 :: 83 :: 69 :: 81 :: 85 :: 69 :: 78 :: 67 :: 69 :: 32 :: 40 :: 83 :: 73 :: 90 :: 69 :: 32 :: 40 :: (numC a ++ (44 :: 32 :: 46 :: 46 :: 46 :: 41 :: 41 :: 32 :: 79 :: 70 :: 32 :: 78 :: 85 :: 76 :: 76 :: 32 :: 67 :: 32 :: 58 :: 58 :: 61 :: 32 :: 73 :: 78 :: 84 :: 69 :: 71 :: 69 :: 82 :: 32 :: 69 :: 78 :: 68 :: [])))) := by
    unfold pcText pcS1 pcS2 pcS3 wrT dtT
    simp only [cond, List.append_assoc, List.cons_append, List.nil_append, List.append_nil]
  unfold ParT
  rw [e]
  exact ⟨_, pcA (num_stepC h1 rfl rfl (pcX1 (num_stepC h1 rfl rfl (pcY1 N len)))), by kernel_rfl⟩
theorem par_31 : ParT N len 3 true a b := by
  have e : pcText 3 true a b = 77 :: 32 :: 68 :: 69 :: 70 :: 73 :: 78 :: 73 :: 84 :: 73 :: 79 :: 78 :: 83 :: 32 :: 58 :: 58 :: 61 :: 32 :: 66 :: 69 :: 71 :: 73 :: 78 :: 32 :: 65 :: 32 :: 58 :: 58 :: 61 :: 32 :: 73 :: 78 :: 84 :: 69 :: 71 :: 69 :: 82 :: 32 :: 40 :: (numC a ++ (46 :: 46 :: 77 :: 65 :: 88 :: 44 :: 32 :: 46 :: 46 :: 46 :: 41 :: 32 :: 66 :: 32 :: 58 :: 58 :: 61 :: 32 :: 83 :: 69 :: 81 :: 85 :: 69 :: 78 :: 67 :: 69 :: 32 :: 40 :: 83 :: 73 :: 90 :: 69 :: 32 :: 40 :: (numC a ++ (46 :: 46 :: 77 :: 65 :: 88 :: 44 :: 32 :: 46 :: 46 :: 46 :: 41 :: 41 :: 32 :: 79 :: 70 :: 32 :: 78 :: 85 :: 76 :: 76 :: 32 :: 67 :: 32 :: 58 :: 58 :: 61 :: 32 :: 73 :: 78 :: 84 :: 69 :: 71 :: 69 :: 82 :: 32 :: 69 :: 78 :: 68 :: [])))) := by
    unfold pcText pcS1 pcS2 pcS3 wrT dtT
    simp only [cond, List.append_assoc, List.cons_append, List.nil_append, List.append_nil]
  unfold ParT
  rw [e]
  exact ⟨_, pcA (num_stepC h1 rfl rfl (pcMX1 (num_stepC h1 rfl rfl (pcMY1 N len)))), by kernel_rfl⟩
theorem par_41 : ParT N len 4 true a b := by
  have e : pcText 4 true a b = 77 :: 32 :: 68 :: 69 :: 70 :: 73 :: 78 :: 73 :: 84 :: 73 :: 79 :: 78 :: 83 :: 32 :: 58 :: 58 :: 61 :: 32 :: 66 :: 69 :: 71 :: 73 :: 78 :: 32 :: 65 :: 32 :: 58 :: 58 :: 61 :: 32 :: 73 :: 78 :: 84 :: 69 :: 71 :: 69 :: 82 :: 32 :: 40 :: (77 :: 73 :: 78 :: 46 :: 46 :: (numC b ++ (44 :: 32 :: 46 :: 46 :: 46 :: 41 :: 32 :: 66 :: 32 :: 58 :: 58 :: 61 :: 32 :: 83 :: 69 :: 81 :: 85 :: 69 :: 78 :: 67 :: 69 :: 32 :: 40 :: 83 :: 73 :: 90 :: 69 :: 32 :: 40 :: (77 :: 73 :: 78 :: 46 :: 46 :: (numC b ++ (44 :: 32 :: 46 :: 46 :: 46 :: 41 :: 41 :: 32 :: 79 :: 70 :: 32 :: 78 :: 85 :: 76 :: 76 :: 32 :: 67 :: 32 :: 58 :: 58 :: 61 :: 32 :: 73 :: 78 :: 84 :: 69 :: 71 :: 69 :: 82 :: 32 :: 69 :: 78 :: 68 :: [])))))) := by
    unfold pcText pcS1 pcS2 pcS3 wrT dtT
    simp only [cond, List.append_assoc, List.cons_append, List.nil_append, List.append_nil]
  unfold ParT
  rw [e]
  exact ⟨_, pcA (pcM (dd_nextC h2 rfl rfl) (num_stepC h2 rfl rfl (pcX1 (pcM (dd_nextC h2 rfl rfl) (num_stepC h2 rfl rfl (pcY1 N len)))))), by kernel_rfl⟩
theorem par_51 : ParT N len 5 true a b := by
  have e : pcText 5 true a b = 77 :: 32 :: 68 :: 69 :: 70 :: 73 :: 78 :: 73 :: 84 :: 73 :: 79 :: 78 :: 83 :: 32 :: 58 :: 58 :: 61 :: 32 :: 66 :: 69 :: 71 :: 73 :: 78 :: 32 :: 65 :: 32 :: 58 :: 58 :: 61 :: 32 :: 73 :: 78 :: 84 :: 69 :: 71 :: 69 :: 82 :: 32 :: 40 :: ((77 :: 73 :: 78 :: 44 :: 32 :: 46 :: 46 :: 46 :: 41 :: 32 :: 66 :: 32 :: 58 :: 58 :: 61 :: 32 :: 83 :: 69 :: 81 :: 85 :: 69 :: 78 :: 67 :: 69 :: 32 :: 40 :: 83 :: 73 :: 90 :: 69 :: 32 :: 40 :: ((77 :: 73 :: 78 :: 44 :: 32 :: 46 :: 46 :: 46 :: 41 :: 41 :: 32 :: 79 :: 70 :: 32 :: 78 :: 85 :: 76 :: 76 :: 32 :: 67 :: 32 :: 58 :: 58 :: 61 :: 32 :: 73 :: 78 :: 84 :: 69 :: 71 :: 69 :: 82 :: 32 :: 69 :: 78 :: 68 :: [])))) := by
    unfold pcText pcS1 pcS2 pcS3 wrT dtT
    simp only [cond, List.append_assoc, List.cons_append, List.nil_append, List.append_nil]
  unfold ParT
  rw [e]
  exact ⟨_, pcA (pcNX1 (pcNY1 N len)), by kernel_rfl⟩
theorem par_all {f : Nat} (hf : f < 6) (d : Bool) : ParT N len f d a b := by
  rcases (by omega : f = 0 ∨ f = 1 ∨ f = 2 ∨ f = 3 ∨ f = 4 ∨ f = 5) with rfl | rfl | rfl | rfl | rfl | rfl <;> cases d
  · exact par_00 h1 h2 N len
  · exact par_01 h1 h2 N len
  · exact par_10 h1 h2 N len
  · exact par_11 h1 h2 N len
  · exact par_20 h1 h2 N len
  · exact par_21 h1 h2 N len
  · exact par_30 h1 h2 N len
  · exact par_31 h1 h2 N len
  · exact par_40 h1 h2 N len
  · exact par_41 h1 h2 N len
  · exact par_50 h1 h2 N len
  · exact par_51 h1 h2 N len
end
/-! ### what is printed -/
theorem bnd_pr {f : Nat} (hf : f < 6) (d : Bool) (a b : Int) : bndT (pcC f d a b) = prT f a b ++ dtT d := by
  have ea : eqF a a = true := by rw [eqF_eq]; exact beq_self_eq_true a
  rcases (by omega : f = 0 ∨ f = 1 ∨ f = 2 ∨ f = 3 ∨ f = 4 ∨ f = 5) with rfl | rfl | rfl | rfl | rfl | rfl
  · rfl
  · show (bif (true && true) && eqF a a then _ else _) ++ _ = _
    rw [ea]; rfl
  · show (bif (true && true) && eqF a a then _ else _) ++ _ = _
    rw [ea]; rfl
  · rfl
  · show ([77, 73, 78] ++ ([46, 46] ++ numC b)) ++ _ = _
    rfl
  · rfl
theorem pc_has {f : Nat} (hf : f < 6) (d : Bool) (a b : Int) : (pcC f d a b).has = true := by
  rcases (by omega : f = 0 ∨ f = 1 ∨ f = 2 ∨ f = 3 ∨ f = 4 ∨ f = 5) with rfl | rfl | rfl | rfl | rfl | rfl <;> rfl
theorem pc_in {f : Nat} (hf : f < 6) (d : Bool) {a b : Int} (h1 : In64 a) (h2 : In64 b) : In64 (pcC f d a b).low ∧ In64 (pcC f d a b).high := by
  have hz : In64 0 := ⟨by decide, by decide⟩
  rcases (by omega : f = 0 ∨ f = 1 ∨ f = 2 ∨ f = 3 ∨ f = 4 ∨ f = 5) with rfl | rfl | rfl | rfl | rfl | rfl
  · exact ⟨h1, h2⟩
  · exact ⟨h1, h1⟩
  · exact ⟨h1, h1⟩
  · exact ⟨h1, hz⟩
  · exact ⟨hz, h2⟩
  · exact ⟨hz, hz⟩
theorem con_pr {f : Nat} (hf : f < 6) (d : Bool) (a b : Int) (x y : List Nat) : conT (pcC f d a b) x y = x ++ ((prT f a b ++ dtT d) ++ y) := by
  unfold conT
  rw [pc_has hf, bnd_pr hf]; rfl
theorem pc_mod {f : Nat} (hf : f < 6) (d : Bool) (a b : Int) : modT (pcMod (pcC f d a b)) 2 = some (pcWant f d a b) := by
  have c1 := con_pr hf d a b [32, 40] [41]
  have c2 := con_pr hf d a b [40, 83, 73, 90, 69, 32, 40] [41, 41, 32]
  have n0 : pNd (pcMod (pcC f d a b)) 2 0 = some ([73, 78, 84, 69, 71, 69, 82] ++ conT (pcC f d a b) [32, 40] [41]) := rfl
  have n1 : pNd (pcMod (pcC f d a b)) 2 1 = some ([83, 69, 81, 85, 69, 78, 67, 69, 32] ++ (conT (pcC f d a b) [40, 83, 73, 90, 69, 32, 40] [41, 41, 32] ++ ([79, 70, 32] ++ [78, 85, 76, 76]))) := rfl
  have n3 : pNd (pcMod (pcC f d a b)) 2 3 = some ([73, 78, 84, 69, 71, 69, 82] ++ []) := rfl
  show (asgT (pcMod (pcC f d a b)) 2 [[65], [66], [67]] [0, 1, 3]).map _ = _
  unfold asgT asgT asgT asgT
  rw [n0, n1, n3, c1, c2]
  simp only [Option.bind_some, Option.map_some]
  refine congrArg some ?_
  unfold pcWant modH pcMod
  simp only [List.append_assoc, List.cons_append, List.nil_append, List.append_nil]
theorem prT_len {f : Nat} {a b : Int} (h1 : In64 a) (h2 : In64 b) : (prT f a b).length ≤ 50 := by
  have n1 := (numC_by h1).2
  have n2 := (numC_by h2).2
  unfold prT
  split
  · cases eqF a b <;> simp only [cond, List.length_append, List.length_cons, List.length_nil] <;> omega
  all_goals first | omega | (simp only [List.length_append, List.length_cons, List.length_nil]; omega)
theorem wrT_by {f : Nat} {a b : Int} (h1 : In64 a) (h2 : In64 b) : ByT (wrT f a b) ∧ (wrT f a b).length ≤ 50 := by
  obtain ⟨b1, n1⟩ := numC_by h1
  obtain ⟨b2, n2⟩ := numC_by h2
  unfold wrT
  have app : ∀ {x y : List Nat}, ByT x → ByT y → ByT (x ++ y) := fun hx hy c hc => (List.mem_append.1 hc).elim (hx c) (hy c)
  split
  · exact ⟨app b1 (app (by decide) b2), by simp only [List.length_append, List.length_cons, List.length_nil]; omega⟩
  · exact ⟨app b1 (app (by decide) b1), by simp only [List.length_append, List.length_cons, List.length_nil]; omega⟩
  · exact ⟨b1, by omega⟩
  · exact ⟨app b1 (by decide), by simp only [List.length_append, List.length_cons, List.length_nil]; omega⟩
  · exact ⟨app (by decide) b2, by simp only [List.length_append, List.length_cons, List.length_nil]; omega⟩
  · exact ⟨by decide, by decide⟩
theorem prT_by {f : Nat} {a b : Int} (h1 : In64 a) (h2 : In64 b) : ByT (prT f a b) := by
  have b1 := (numC_by h1).1
  have b2 := (numC_by h2).1
  unfold prT
  have app : ∀ {x y : List Nat}, ByT x → ByT y → ByT (x ++ y) := fun hx hy c hc => (List.mem_append.1 hc).elim (hx c) (hy c)
  split
  · cases eqF a b
    · exact app b1 (app (by decide) b2)
    · exact b1
  · exact b1
  · exact b1
  · exact app b1 (by decide)
  · exact app (by decide) b2
  · decide
end
end Go.Proofs.YtabnjnkmdknhaaaGreatDoor
set_option linter.all false
set_option maxRecDepth 100000
namespace Go.Proofs.YtabnjnkmdknhaaaGreatDoor
open Go Go.Og
noncomputable section
theorem k1_bs : BS.mk 5 379052699182 = ofN [46, 46, 77, 65, 88] := by decide +kernel
theorem k2_bs : BS.mk 5 198345378125 = ofN [77, 73, 78, 46, 46] := by decide +kernel
theorem k3_bs : BS.mk 8 6359449009564567885 = ofN [77, 73, 78, 46, 46, 77, 65, 88] := by decide +kernel
theorem k4_bs : BS.mk 39 1307818011897121422451922733390706347676985071784222021968392631138651534820383999223994261581 = ofN [77, 32, 68, 69, 70, 73, 78, 73, 84, 73, 79, 78, 83, 32, 58, 58, 61, 32, 66, 69, 71, 73, 78, 32, 65, 32, 58, 58, 61, 32, 73, 78, 84, 69, 71, 69, 82, 32, 40] := by decide +kernel
theorem k5_bs : BS.mk 24 983888085154580603510626121640460007450711282005888344105 = ofN [41, 32, 66, 32, 58, 58, 61, 32, 83, 69, 81, 85, 69, 78, 67, 69, 32, 40, 83, 73, 90, 69, 32, 40] := by decide +kernel
theorem k6_bs : BS.mk 28 7193434253939231318197949102912637021307660997973063145023766276393 = ofN [41, 41, 32, 79, 70, 32, 78, 85, 76, 76, 32, 67, 32, 58, 58, 61, 32, 73, 78, 84, 69, 71, 69, 82, 32, 69, 78, 68] := by decide +kernel
theorem k7_bs : BS.mk 53 6790579354708687386894014949640630785606080618502221152243543566899706465186766692755885520369579596523724409822006065997553741 = ofN [77, 32, 68, 69, 70, 73, 78, 73, 84, 73, 79, 78, 83, 32, 69, 88, 80, 76, 73, 67, 73, 84, 32, 84, 65, 71, 83, 32, 58, 58, 61, 32, 66, 69, 71, 73, 78, 10, 65, 32, 58, 58, 61, 32, 73, 78, 84, 69, 71, 69, 82, 32, 40] := by decide +kernel
theorem k8_bs : BS.mk 24 983888085154580603510626121640460007450711282005888338473 = ofN [41, 10, 66, 32, 58, 58, 61, 32, 83, 69, 81, 85, 69, 78, 67, 69, 32, 40, 83, 73, 90, 69, 32, 40] := by decide +kernel
theorem k9_bs : BS.mk 29 276792900787349391086361123168721576447110417472758936656009265948969 = ofN [41, 41, 32, 79, 70, 32, 78, 85, 76, 76, 10, 67, 32, 58, 58, 61, 32, 73, 78, 84, 69, 71, 69, 82, 10, 69, 78, 68, 10] := by decide +kernel
def SpAw6 (F : List V → H → Ans) : Prop := ∀ (σ : H), Tidy σ → ∃ σ', F [] σ = some (.bool true, σ') ∧ Fr Nowhere σ σ'
theorem mod6 (c : Int) : ∃ f, f < 6 ∧ wrapF .i64 (Int.tmod (wrapF .u64 c) (Int.ofNat 6)) = Int.ofNat f := by
  have e := wrap_u64 c
  obtain ⟨k, hk⟩ : ∃ k : Nat, c % 18446744073709551616 = Int.ofNat k := ⟨(c % 18446744073709551616).toNat, by simp only [Int.ofNat_eq_natCast]; omega⟩
  refine ⟨k % 6, Nat.mod_lt _ (by decide), ?_⟩
  rw [e, hk, tm, wrapF_nat (show k % 6 ≤ 9223372036854775807 by omega)]
theorem byApp {x y : List Nat} (hx : ByT x) (hy : ByT y) : ByT (x ++ y) := fun c hc => (List.mem_append.1 hc).elim (hx c) (hy c)
def wrV (a b : Int) : List V := [.str (ofN ((numC a ++ [46, 46]) ++ numC b)), .str (ofN ((numC a ++ [46, 46]) ++ numC a)), .str (ofN (numC a)), .str (ofN (numC a ++ [46, 46, 77, 65, 88])), .str (ofN ([77, 73, 78, 46, 46] ++ numC b)), .str (BS.mk 3 5130573)]
def prV (a b : Int) : List V := [.str (ofN ((numC a ++ [46, 46]) ++ numC b)), .str (ofN (numC a)), .str (ofN (numC a)), .str (ofN (numC a ++ [46, 46, 77, 65, 88])), .str (ofN ([77, 73, 78, 46, 46] ++ numC b)), .str (BS.mk 8 6359449009564567885)]
def prB (f : Nat) (a b : Int) : List Nat := match f with
  | 0 => numC a ++ ([46, 46] ++ numC b)
  | f + 1 => prT (f + 1) a b
theorem wrV_get {f : Nat} (hf : f < 6) (a b : Int) : (wrV a b)[f]? = some (.str (ofN (wrT f a b))) := by
  rcases (by omega : f = 0 ∨ f = 1 ∨ f = 2 ∨ f = 3 ∨ f = 4 ∨ f = 5) with rfl | rfl | rfl | rfl | rfl | rfl
  · show some (V.str (ofN ((numC a ++ [46, 46]) ++ numC b))) = some (V.str (ofN (numC a ++ ([46, 46] ++ numC b))))
    rw [List.append_assoc]
  · show some (V.str (ofN ((numC a ++ [46, 46]) ++ numC a))) = some (V.str (ofN (numC a ++ ([46, 46] ++ numC a))))
    rw [List.append_assoc]
  · rfl
  · rfl
  · rfl
  · show some (V.str (BS.mk 3 5130573)) = _
    rw [bsM]; rfl
theorem prV_get {f : Nat} (hf : f < 6) (a b : Int) : (prV a b)[f]? = some (.str (ofN (prB f a b))) := by
  rcases (by omega : f = 0 ∨ f = 1 ∨ f = 2 ∨ f = 3 ∨ f = 4 ∨ f = 5) with rfl | rfl | rfl | rfl | rfl | rfl
  · show some (V.str (ofN ((numC a ++ [46, 46]) ++ numC b))) = some (V.str (ofN (numC a ++ ([46, 46] ++ numC b))))
    rw [List.append_assoc]
  · rfl
  · rfl
  · rfl
  · rfl
  · show some (V.str (BS.mk 8 6359449009564567885)) = _
    rw [k3_bs]; rfl
section
variable {E : List (Nat × Blk)} {D : Den} {W : DrawFn} {N : Nat}
theorem law_0 (hN : SpNumber (D 4)) {σ : H} {a b : Int} (c : Int) (d : Bool) (ht : Tidy σ) (h1 : In64 a) (h2 : In64 b) :
    ∃ f σ', f < 6 ∧ (∀ K1, T3_0 E D W K1 a b c d σ = K1 d (ofN (wrT f a b)) (ofN (prT f a b)) σ') ∧ Fr Nowhere σ σ' := by
  obtain ⟨f, hf, e0⟩ := mod6 c
  obtain ⟨b1, n1⟩ := numC_by h1
  obtain ⟨b2, n2⟩ := numC_by h2
  have bd : ByT [46, 46] := by decide
  obtain ⟨σ1, g1, f1⟩ := hN σ a ht h1
  obtain ⟨σ2, g2, f2⟩ := hN σ1 b f1.tidy h2
  obtain ⟨σ3, g3, f3⟩ := hN σ2 a f2.tidy h1
  obtain ⟨σ4, g4, f4⟩ := hN σ3 a f3.tidy h1
  obtain ⟨σ5, g5, f5⟩ := hN σ4 a f4.tidy h1
  obtain ⟨σ6, g6, f6⟩ := hN σ5 a f5.tidy h1
  obtain ⟨σ7, g7, f7⟩ := hN σ6 b f6.tidy h2
  obtain ⟨σ8, e8, f8, a8, x8⟩ := mkN f7.tidy (wrV a b)
  obtain ⟨σ9, g9, f9⟩ := hN σ8 a f8.tidy h1
  obtain ⟨σ10, g10, f10⟩ := hN σ9 b f9.tidy h2
  obtain ⟨σ11, g11, f11⟩ := hN σ10 a f10.tidy h1
  obtain ⟨σ12, g12, f12⟩ := hN σ11 a f11.tidy h1
  obtain ⟨σ13, g13, f13⟩ := hN σ12 a f12.tidy h1
  obtain ⟨σ14, g14, f14⟩ := hN σ13 b f13.tidy h2
  obtain ⟨σ15, e15, f15, a15, x15⟩ := mkN f14.tidy (prV a b)
  obtain ⟨σ16, g16, f16⟩ := hN σ15 a f15.tidy h1
  have ft : ∀ {x y z : H}, Fr Nowhere x y → Fr Nowhere y z → Fr Nowhere x z := fun p q => p.trans q fun _ _ e => e
  have fr15 : Fr Nowhere σ σ15 := ft f1 (ft f2 (ft f3 (ft f4 (ft f5 (ft f6 (ft f7 (ft f8 (ft f9 (ft f10 (ft f11 (ft f12 (ft f13 (ft f14 f15)))))))))))))
  have l8 : ∀ κ : V → Ans, ldK E σ8 σ7.next f κ = κ (.str (ofN (wrT f a b))) := fun κ => ldK_get a8 (wrV_get hf a b)
  have l15 : ∀ κ : V → Ans, ldK E σ15 σ14.next f κ = κ (.str (ofN (prB f a b))) := fun κ => ldK_get a15 (prV_get hf a b)
  unfold wrV at e8
  unfold prV at e15
  have i8 : ∀ κ : Nat → Nat → Ans, iaddrSK 1 (.sl σ7.next 0 6 (.ex 6)) (Int.ofNat f) κ = κ σ7.next f := fun κ => by rw [ia1 hf, Nat.zero_add]
  have i15 : ∀ κ : Nat → Nat → Ans, iaddrSK 1 (.sl σ14.next 0 6 (.ex 6)) (Int.ofNat f) κ = κ σ14.next f := fun κ => by rw [ia1 hf, Nat.zero_add]
  have c1 : ∀ κ : BS → Ans, catK (ofN (numC a)) (BS.mk 2 11822) κ = κ (ofN (numC a ++ [46, 46])) := fun κ => by rw [bsD, catK_ofN b1 bd (by simp only [List.length_cons, List.length_nil]; omega)]
  have bc := byApp b1 bd
  have lc : (numC a ++ [46, 46]).length ≤ 23 := by simp only [List.length_append, List.length_cons, List.length_nil]; omega
  have c2 : ∀ κ : BS → Ans, catK (ofN (numC a ++ [46, 46])) (ofN (numC b)) κ = κ (ofN ((numC a ++ [46, 46]) ++ numC b)) := fun κ => catK_ofN bc b2 (by omega) κ
  have c3 : ∀ κ : BS → Ans, catK (ofN (numC a ++ [46, 46])) (ofN (numC a)) κ = κ (ofN ((numC a ++ [46, 46]) ++ numC a)) := fun κ => catK_ofN bc b1 (by omega) κ
  have c4 : ∀ κ : BS → Ans, catK (ofN (numC a)) (BS.mk 5 379052699182) κ = κ (ofN (numC a ++ [46, 46, 77, 65, 88])) := fun κ => by rw [k1_bs, catK_ofN b1 (by decide) (by simp only [List.length_cons, List.length_nil]; omega)]
  have c5 : ∀ κ : BS → Ans, catK (BS.mk 5 198345378125) (ofN (numC b)) κ = κ (ofN ([77, 73, 78, 46, 46] ++ numC b)) := fun κ => by rw [k2_bs, catK_ofN (by decide) b2 (by simp only [List.length_cons, List.length_nil]; omega)]
  have run : ∀ K1, T3_0 E D W K1 a b c d σ = condK (decide (f = 0)) (condK (eqF a b) (K1 d (ofN (wrT f a b)) (ofN (numC a)) σ16) (K1 d (ofN (wrT f a b)) (ofN (prB f a b)) σ15)) (K1 d (ofN (wrT f a b)) (ofN (prB f a b)) σ15) := by
    intro K1
    unfold T3_0
    simp -implicitDefEqProofs only [↓rP, rA, Nat.reduceEqDiff, Nat.reduceLT, Nat.reduceLeDiff, ↓g1, ↓c1, ↓g2, ↓c2, ↓g3, ↓g4, ↓c3, ↓g5, ↓g6, ↓c4, ↓g7, ↓c5, ↓e8, e0, ↓i8, ↓l8, ↓g9, ↓g10, ↓g11, ↓g12, ↓g13, ↓g14, ↓e15, ↓i15, ↓l15]
    cases decide (f = 0) with
    | false => simp -implicitDefEqProofs only [↓rP, rA, Nat.reduceEqDiff, Nat.reduceLT, Nat.reduceLeDiff]
    | true =>
      cases eqF a b with
      | false => simp -implicitDefEqProofs only [↓rP, rA, Nat.reduceEqDiff, Nat.reduceLT, Nat.reduceLeDiff]
      | true => simp -implicitDefEqProofs only [↓rP, rA, Nat.reduceEqDiff, Nat.reduceLT, Nat.reduceLeDiff, ↓g16]
  cases hd : decide (f = 0) with
  | false =>
    obtain ⟨q, rfl⟩ : ∃ q, f = q + 1 := ⟨f - 1, by have := of_decide_eq_false hd; omega⟩
    exact ⟨q + 1, σ15, hf, fun K1 => by rw [run, hd]; rfl, fr15⟩
  | true =>
    obtain rfl : f = 0 := of_decide_eq_true hd
    cases hq : eqF a b with
    | false => exact ⟨0, σ15, hf, fun K1 => by
        rw [run, hd, hq]
        show K1 d (ofN (wrT 0 a b)) (ofN (numC a ++ ([46, 46] ++ numC b))) σ15 = K1 d (ofN (wrT 0 a b)) (ofN (bif eqF a b then numC a else numC a ++ ([46, 46] ++ numC b))) σ15
        rw [hq]; rfl, fr15⟩
    | true => exact ⟨0, σ16, hf, fun K1 => by
        rw [run, hd, hq]
        show K1 d (ofN (wrT 0 a b)) (ofN (numC a)) σ16 = K1 d (ofN (wrT 0 a b)) (ofN (bif eqF a b then numC a else numC a ++ ([46, 46] ++ numC b))) σ16
        rw [hq]; rfl, ft fr15 f16⟩
theorem law_1 {K2 : BS → BS → BS → H → Ans} (d : Bool) (x y : BS) (σ : H) : T3_1 E D W K2 d x y σ = K2 x y (ofN (dtT d)) σ := by
  unfold T3_1
  cases d with
  | true => rw [condK_true, bsE]; rfl
  | false => rw [condK_false]; rfl
theorem law_2 (hA : SpAw6 (D 6)) (hP : SpParse 600000 (typP 2) (D 5)) (hR : ∀ m : ModS, PrOk m → SpPrint E m 2 (D 7)) {σ : H} {f : Nat} {a b : Int} {d : Bool} (hf : f < 6) (ht : Tidy σ) (hp : P10 E σ) (h1 : In64 a) (h2 : In64 b) :
    ∃ σ', T3_2 E D W (ofN (wrT f a b)) (ofN (prT f a b)) (ofN (dtT d)) σ = some (.bool true, σ') := by
  obtain ⟨bw, lw⟩ := wrT_by (f := f) h1 h2
  have bp := prT_by (f := f) h1 h2
  have lp := prT_len (f := f) h1 h2
  have bt : ByT (dtT d) ∧ (dtT d).length ≤ 5 := by cases d <;> exact ⟨by decide, by decide⟩
  have s1 : ByT pcS1 ∧ pcS1.length = 39 := ⟨by unfold pcS1; decide, rfl⟩
  have s2 : ByT pcS2 ∧ pcS2.length = 24 := ⟨by unfold pcS2; decide, rfl⟩
  have s3 : ByT pcS3 ∧ pcS3.length = 28 := ⟨by unfold pcS3; decide, rfl⟩
  obtain ⟨bt, lt⟩ := bt
  obtain ⟨bs1, ls1⟩ := s1
  obtain ⟨bs2, ls2⟩ := s2
  obtain ⟨bs3, ls3⟩ := s3
  obtain ⟨t1, ht1⟩ : ∃ t, t = pcS1 ++ wrT f a b := ⟨_, rfl⟩
  obtain ⟨t2, ht2⟩ : ∃ t, t = t1 ++ dtT d := ⟨_, rfl⟩
  obtain ⟨t3, ht3⟩ : ∃ t, t = t2 ++ pcS2 := ⟨_, rfl⟩
  obtain ⟨t4, ht4⟩ : ∃ t, t = t3 ++ wrT f a b := ⟨_, rfl⟩
  obtain ⟨t5, ht5⟩ : ∃ t, t = t4 ++ dtT d := ⟨_, rfl⟩
  obtain ⟨t6, ht6⟩ : ∃ t, t = t5 ++ pcS3 := ⟨_, rfl⟩
  have bt1 : ByT t1 := by rw [ht1]; exact byApp bs1 bw
  have bt2 : ByT t2 := by rw [ht2]; exact byApp bt1 bt
  have bt3 : ByT t3 := by rw [ht3]; exact byApp bt2 bs2
  have bt4 : ByT t4 := by rw [ht4]; exact byApp bt3 bw
  have bt5 : ByT t5 := by rw [ht5]; exact byApp bt4 bt
  have bt6 : ByT t6 := by rw [ht6]; exact byApp bt5 bs3
  have lt1 : t1.length ≤ 89 := by rw [ht1, List.length_append]; omega
  have lt2 : t2.length ≤ 94 := by rw [ht2, List.length_append]; omega
  have lt3 : t3.length ≤ 118 := by rw [ht3, List.length_append]; omega
  have lt4 : t4.length ≤ 168 := by rw [ht4, List.length_append]; omega
  have lt5 : t5.length ≤ 173 := by rw [ht5, List.length_append]; omega
  have lt6 : t6.length ≤ 201 := by rw [ht6, List.length_append]; omega
  have c1 : ∀ κ : BS → Ans, catK (BS.mk 39 1307818011897121422451922733390706347676985071784222021968392631138651534820383999223994261581) (ofN (wrT f a b)) κ = κ (ofN t1) := fun κ => by rw [k4_bs, ht1]; exact catK_ofN bs1 bw (by omega) κ
  have c2 : ∀ κ : BS → Ans, catK (ofN t1) (ofN (dtT d)) κ = κ (ofN t2) := fun κ => by rw [ht2]; exact catK_ofN bt1 bt (by omega) κ
  have c3 : ∀ κ : BS → Ans, catK (ofN t2) (BS.mk 24 983888085154580603510626121640460007450711282005888344105) κ = κ (ofN t3) := fun κ => by rw [k5_bs, ht3]; exact catK_ofN bt2 bs2 (by omega) κ
  have c4 : ∀ κ : BS → Ans, catK (ofN t3) (ofN (wrT f a b)) κ = κ (ofN t4) := fun κ => by rw [ht4]; exact catK_ofN bt3 bw (by omega) κ
  have c5 : ∀ κ : BS → Ans, catK (ofN t4) (ofN (dtT d)) κ = κ (ofN t5) := fun κ => by rw [ht5]; exact catK_ofN bt4 bt (by omega) κ
  have c6 : ∀ κ : BS → Ans, catK (ofN t5) (BS.mk 28 7193434253939231318197949102912637021307660997973063145023766276393) κ = κ (ofN t6) := fun κ => by rw [k6_bs, ht6]; exact catK_ofN bt5 bs3 (by omega) κ
  have e6 : t6 = pcText f d a b := by
    rw [ht6, ht5, ht4, ht3, ht2, ht1]
    unfold pcText
    simp only [List.append_assoc]
  obtain ⟨ts, htk, hmod⟩ := par_all h1 h2 599990 t6.length hf d
  rw [numI_C h1, numI_C h2] at hmod
  obtain ⟨nv, tv, dv, σ1, g1, m1, f1⟩ := hP σ (ofN t6) ts (pcMod (pcC f d a b)) ht (by rw [ofN_len]; omega) (by rw [ofN_len, ofN_nats bt6, e6]; rw [e6] at htk; exact htk) hmod
  obtain ⟨i1, i2⟩ := pc_in hf d h1 h2
  have hz : In64 0 := ⟨by decide, by decide⟩
  have hok : PrOk (pcMod (pcC f d a b)) := ⟨rfl, ⟨(by decide : ByT [77]), (by decide : 1 ≤ 100)⟩, (by decide : ∀ w ∈ ([[65], [66], [67]] : List (List Nat)), ByT w), ⟨(by decide : 3 ≤ 100), rfl⟩, fun nd hnd => by
    have hnd : nd ∈ ([⟨2, [], false, 0, 0, pcC f d a b, [], [], 0, false, 0⟩, ⟨10, [], false, 0, 0, pcC f d a b, [], [], 0, false, 2⟩, ⟨4, [], false, 0, 0, conZ, [], [], 0, false, 0⟩, ⟨2, [], false, 0, 0, conZ, [], [], 0, false, 0⟩] : List NodeS) := hnd
    simp only [List.mem_cons, List.not_mem_nil, or_false] at hnd
    rcases hnd with rfl | rfl | rfl | rfl
    · exact ⟨i1, i2⟩
    · exact ⟨i1, i2⟩
    · exact ⟨hz, hz⟩
    · exact ⟨hz, hz⟩⟩
  -- what is wanted
  obtain ⟨w1, hw1⟩ : ∃ t, t = [77, 32, 68, 69, 70, 73, 78, 73, 84, 73, 79, 78, 83, 32, 69, 88, 80, 76, 73, 67, 73, 84, 32, 84, 65, 71, 83, 32, 58, 58, 61, 32, 66, 69, 71, 73, 78, 10, 65, 32, 58, 58, 61, 32, 73, 78, 84, 69, 71, 69, 82, 32, 40] ++ prT f a b := ⟨_, rfl⟩
  obtain ⟨w2, hw2⟩ : ∃ t, t = w1 ++ dtT d := ⟨_, rfl⟩
  obtain ⟨w3, hw3⟩ : ∃ t, t = w2 ++ [41, 10, 66, 32, 58, 58, 61, 32, 83, 69, 81, 85, 69, 78, 67, 69, 32, 40, 83, 73, 90, 69, 32, 40] := ⟨_, rfl⟩
  obtain ⟨w4, hw4⟩ : ∃ t, t = w3 ++ prT f a b := ⟨_, rfl⟩
  obtain ⟨w5, hw5⟩ : ∃ t, t = w4 ++ dtT d := ⟨_, rfl⟩
  obtain ⟨w6, hw6⟩ : ∃ t, t = w5 ++ [41, 41, 32, 79, 70, 32, 78, 85, 76, 76, 10, 67, 32, 58, 58, 61, 32, 73, 78, 84, 69, 71, 69, 82, 10, 69, 78, 68, 10] := ⟨_, rfl⟩
  have bk7 : ByT [77, 32, 68, 69, 70, 73, 78, 73, 84, 73, 79, 78, 83, 32, 69, 88, 80, 76, 73, 67, 73, 84, 32, 84, 65, 71, 83, 32, 58, 58, 61, 32, 66, 69, 71, 73, 78, 10, 65, 32, 58, 58, 61, 32, 73, 78, 84, 69, 71, 69, 82, 32, 40] := by decide
  have bk8 : ByT [41, 10, 66, 32, 58, 58, 61, 32, 83, 69, 81, 85, 69, 78, 67, 69, 32, 40, 83, 73, 90, 69, 32, 40] := by decide
  have bk9 : ByT [41, 41, 32, 79, 70, 32, 78, 85, 76, 76, 10, 67, 32, 58, 58, 61, 32, 73, 78, 84, 69, 71, 69, 82, 10, 69, 78, 68, 10] := by decide
  have bw1 : ByT w1 := by rw [hw1]; exact byApp bk7 bp
  have bw2 : ByT w2 := by rw [hw2]; exact byApp bw1 bt
  have bw3 : ByT w3 := by rw [hw3]; exact byApp bw2 bk8
  have bw4 : ByT w4 := by rw [hw4]; exact byApp bw3 bp
  have bw5 : ByT w5 := by rw [hw5]; exact byApp bw4 bt
  have lw1 : w1.length ≤ 103 := by rw [hw1, List.length_append]; simp only [List.length_cons, List.length_nil]; omega
  have lw2 : w2.length ≤ 108 := by rw [hw2, List.length_append]; omega
  have lw3 : w3.length ≤ 132 := by rw [hw3, List.length_append]; simp only [List.length_cons, List.length_nil]; omega
  have lw4 : w4.length ≤ 182 := by rw [hw4, List.length_append]; omega
  have lw5 : w5.length ≤ 187 := by rw [hw5, List.length_append]; omega
  have lw6 : w6.length ≤ 216 := by rw [hw6, List.length_append]; simp only [List.length_cons, List.length_nil]; omega
  have d1 : ∀ κ : BS → Ans, catK (BS.mk 53 6790579354708687386894014949640630785606080618502221152243543566899706465186766692755885520369579596523724409822006065997553741) (ofN (prT f a b)) κ = κ (ofN w1) := fun κ => by rw [k7_bs, hw1]; exact catK_ofN bk7 bp (by simp only [List.length_cons, List.length_nil]; omega) κ
  have d2 : ∀ κ : BS → Ans, catK (ofN w1) (ofN (dtT d)) κ = κ (ofN w2) := fun κ => by rw [hw2]; exact catK_ofN bw1 bt (by omega) κ
  have d3 : ∀ κ : BS → Ans, catK (ofN w2) (BS.mk 24 983888085154580603510626121640460007450711282005888338473) κ = κ (ofN w3) := fun κ => by rw [k8_bs, hw3]; exact catK_ofN bw2 bk8 (by simp only [List.length_cons, List.length_nil]; omega) κ
  have d4 : ∀ κ : BS → Ans, catK (ofN w3) (ofN (prT f a b)) κ = κ (ofN w4) := fun κ => by rw [hw4]; exact catK_ofN bw3 bp (by omega) κ
  have d5 : ∀ κ : BS → Ans, catK (ofN w4) (ofN (dtT d)) κ = κ (ofN w5) := fun κ => by rw [hw5]; exact catK_ofN bw4 bt (by omega) κ
  have d6 : ∀ κ : BS → Ans, catK (ofN w5) (BS.mk 29 276792900787349391086361123168721576447110417472758936656009265948969) κ = κ (ofN w6) := fun κ => by rw [k9_bs, hw6]; exact catK_ofN bw5 bk9 (by simp only [List.length_cons, List.length_nil]; omega) κ
  have ew : w6 = pcWant f d a b := by
    rw [hw6, hw5, hw4, hw3, hw2, hw1]
    unfold pcWant
    simp only [List.append_assoc]
  obtain ⟨σ2, g2, f2⟩ := hA σ1 f1.tidy
  have m2 : MdS σ2 (pcMod (pcC f d a b)) nv tv dv := by
    obtain ⟨ws, x1, x2, x3⟩ := m1.d
    refine ⟨m1.n.fr f2 f1.tidy (fun _ _ h => h), m1.t.fr f2 f1.tidy (fun _ _ h => h), ws, x1.fr f2 f1.tidy (fun _ _ h => h), x2, fun k nd u hn hu => ?_⟩
    obtain ⟨y1, y2⟩ := x3 k nd u hn hu
    exact ⟨y1.fr f2 f1.tidy (fun _ _ h => h), y2.fr f2 f1.tidy (fun _ _ h => h)⟩
  obtain ⟨σ3, g3, f3⟩ := hR _ hok σ2 nv tv dv w6 f2.tidy ((hp.fr f1 (fun e => e)).fr f2 (fun e => e)) m2 (by rw [ew]; exact pc_mod hf d a b) (by omega)
  refine ⟨σ3, ?_⟩
  have o1 : nv.one = true := m1.n.one
  have o2 : tv.one = true := m1.t.one
  have o3 : dv.one = true := by
    obtain ⟨ws, x, _⟩ := m1.d
    exact x.one
  have bq : BS.beq (ofN w6) (ofN w6) = true := by rw [BS.beq_nats]; exact decide_eq_true rfl
  unfold mdC at g1 g3
  unfold T3_2
  simp -implicitDefEqProofs only [↓rP, rA, Nat.reduceEqDiff, Nat.reduceLT, Nat.reduceLeDiff, ↓c1, ↓c2, ↓c3, ↓c4, ↓c5, ↓c6, ↓g1, o1, o2, o3, ↓d1, ↓d2, ↓d3, ↓d4, ↓d5, ↓d6, ↓g2, ↓g3, bq]
theorem pc_law (hN : SpNumber (D 4)) (hA : SpAw6 (D 6)) (hP : SpParse 600000 (typP 2) (D 5)) (hR : ∀ m : ModS, PrOk m → SpPrint E m 2 (D 7)) {σ : H} {a b : Int} (c : Int) (d : Bool) (ht : Tidy σ) (hp : P10 E σ) (h1 : In64 a) (h2 : In64 b) :
    ∃ σ', F3 E D W N [.int .i64 a, .int .i64 b, .int .i64 c, .bool d] σ = some (.bool true, σ') := by
  obtain ⟨f, σ1, hf, g1, f1⟩ := law_0 (E := E) (W := W) hN c d ht h1 h2
  obtain ⟨σ2, g2⟩ := law_2 (W := W) (d := d) hA hP hR hf f1.tidy (hp.fr f1 (fun e => e)) h1 h2
  refine ⟨σ2, ?_⟩
  show T3_0 E D W (T3_1 E D W (T3_2 E D W)) a b c d σ = _
  rw [g1, law_1]; exact g2
end
end
end Go.Proofs.YtabnjnkmdknhaaaGreatDoor
set_option linter.all false
set_option maxRecDepth 100000
namespace Go.Proofs.YtabnjnkmdknhaaaGreatDoor
open Go Go.Og
noncomputable section
theorem hit1 {e : Few} {F : List V → H → Ans} {args : List V} {σ : H} {ρ : Nat → Nat} (hm : e.Fits ρ args σ) : ∃ ρ', e.Fits ρ' args σ ∧ locF [e] F args σ = some (e.ans ρ' σ) := by
  obtain ⟨e', ρ', he, hf, hr⟩ := locF_hit (F := F) (l := [e]) (List.mem_singleton.2 rfl) hm
  have := List.mem_singleton.1 he
  subst this
  exact ⟨ρ', hf, hr⟩
theorem Has.nil {ρ : Nat → Nat} {σ : H} : Has [] ρ σ := fun id b h => by cases h
theorem Inj.nil {ρ : Nat → Nat} : Inj [] ρ := fun id id' h => by cases h
variable {E : List (Nat × Blk)}
theorem xRat (d : Nat) : SpRat (TW E (d + 1) 35) := by rw [DE35]; exact rat_F
theorem xLet (d : Nat) : SpLet (TW E (d + 1) 36) := by rw [DE36]; exact rlet_F
theorem xDig (d : Nat) : SpDig (TW E (d + 1) 39) := by rw [DE39]; exact rdig_F
theorem xWht (d : Nat) : SpWht 600000 (TW E (d + 2) 20) := by rw [DE20]; exact wht_F (xRat d) (by decide)
theorem xInS (d : Nat) : SpInS (TW E (d + 1) 59) := by rw [DE59]; exact inS_F (by decide)
theorem xWords (d : Nat) : ∀ σ : H, (TW E (d + 1) 60) [] σ = some (.sl σ.next 0 25 (.ex 25), newB σ (.cells (wordsV.map .str))) := by rw [DE60]; exact rwords_F
theorem xWord (d : Nat) : SpRword (TW E (d + 2) 38) := by rw [DE38]; exact rword_F (xInS d) (xWords d)
theorem xName (d : Nat) : SpRname (TW E (d + 2) 37) := by rw [DE37]; exact rname_F (xRat d) (xLet d) (xDig d) (by decide)
theorem xSign (d : Nat) : SpRsign (TW E (d + 1) 43) := by rw [DE43]; exact rsign_F (by decide)
theorem xNum (d : Nat) : SpRnum (TW E (d + 2) 40) := by rw [DE40]; exact rnum_F (xRat d) (xLet d) (xDig d) (by decide)
theorem xOne (d : Nat) : SpOne (TW E (d + 3) 21) := by rw [DE21]; exact one_F (xRat (d + 1)) (xLet (d + 1)) (xDig (d + 1)) (xName d) (xWord d) (xNum d) (xSign (d + 1))
theorem xToks (d : Nat) : SpTks 600000 (TW E (d + 4) 9) := by rw [DE9]; exact rtokens_F (xWht (d + 1)) (xOne d) (by decide)
theorem xNow (d : Nat) : SpNow (TW E (d + 1) 13) := by rw [DE13]; exact now_F
theorem xNext (d : Nat) : SpNext (TW E (d + 1) 22) := by rw [DE22]; exact next_F
theorem xIs (d : Nat) : SpIs (TW E (d + 2) 12) := by rw [DE12]; exact is_F (xNow d) (xNext d)
theorem xMust (d : Nat) : SpMust (TW E (d + 3) 11) := by rw [DE11]; exact must_F (xIs d)
theorem xKind (d : Nat) : SpKind (TW E (d + 2) 10) := by rw [DE10]; exact kind_F (xNow d) (xNext d)
theorem xWhole (d : Nat) : SpWhole (TW E (d + 1) 44) := by rw [DE44]; exact whole_F (by decide)
theorem xNumb (d : Nat) : SpNumb (TW E (d + 3) 24) := by rw [DE24]; exact numb_F (xKind d) (xWhole (d + 1))
theorem xBnds (d : Nat) : SpBounds (TW E (d + 4) 46) := by rw [DE46]; exact bounds_F (xIs (d + 1)) (xMust d) (xNumb d)
theorem xSize (d : Nat) : SpSize5 (TW E (d + 5) 45) := by rw [DE45]; exact size_F (xIs (d + 2)) (xMust (d + 1)) (xBnds d)
theorem xBeg (d : Nat) : SpBeg (TW E (d + 1) 23) := by rw [DE23]; exact beg_F (by decide)
theorem xItems (d : Nat) : SpItems (TW E d 47) := by
  unfold SpItems
  intros
  rename_i h
  cases h
theorem xTyp0 (d : Nat) : SpTypT (typP 0) (TW E d 15) := by
  intro σ xb lv ts l l' R ns ns' Q d i _ _ _ h
  cases h
theorem xFields0 (d : Nat) : SpFieldsT (typP 0) (TW E d 48) := by
  unfold SpFieldsT
  intros
  rename_i h
  cases h
theorem xBase0 (d : Nat) : SpBaseT (typP 0) (TW E (d + 6) 25) := by rw [DE25]; exact base_F (xNow (d + 4)) (xIs (d + 3)) (xMust (d + 2)) (xSize d) (xBnds (d + 1)) (xItems (d + 5)) (xFields0 (d + 5)) (xTyp0 (d + 5))
theorem xTyp1 (d : Nat) : SpTypT (typP 1) (TW E (d + 7) 15) := by rw [DE15]; exact typ_F (typP_mon 0) (xNow (d + 5)) (xBeg (d + 5)) (xIs (d + 4)) (xMust (d + 3)) (xNumb (d + 3)) (xBase0 d)
theorem xFields1 (d : Nat) : SpFieldsT (typP 1) (TW E d 48) := by
  unfold SpFieldsT
  intros
  rename_i h
  cases h
theorem xBase1 (d : Nat) : SpBaseT (typP 1) (TW E (d + 8) 25) := by rw [DE25]; exact base_F (xNow (d + 6)) (xIs (d + 5)) (xMust (d + 4)) (xSize (d + 2)) (xBnds (d + 3)) (xItems (d + 7)) (xFields1 (d + 7)) (xTyp1 d)
theorem xTyp2 (d : Nat) : SpTypT (typP 2) (TW E (d + 9) 15) := by rw [DE15]; exact typ_F (typP_mon 1) (xNow (d + 7)) (xBeg (d + 7)) (xIs (d + 6)) (xMust (d + 5)) (xNumb (d + 5)) (xBase1 d)
theorem xParse (d : Nat) : SpParse 600000 (typP 2) (TW E (d + 10) 5) := by rw [DE5]; exact parse_F (xNow (d + 8)) (xIs (d + 7)) (xMust (d + 6)) (xKind (d + 7)) (xToks (d + 5)) (xTyp2 d) (by decide)
theorem xDigitsQ (d : Nat) : ∀ k : Nat, k ≤ 31 → SpDigits k (TW E (d + (k + 1)) 8)
  | 0, _ => by rw [show d + (0 + 1) = d + 1 from rfl, DE8]; exact digits0_F _ _ _ _
  | k + 1, h => by
    rw [show d + (k + 1 + 1) = (d + (k + 1)) + 1 from rfl, DE8]
    exact digits_F (xDigitsQ d k (by omega)) (by omega)
theorem xDigits (d : Nat) : SpDigits 19 (TW E (d + 20) 8) := xDigitsQ d 19 (by decide)
theorem xNumber (d : Nat) : SpNumber (TW E (d + 21) 4) := by rw [DE4]; exact number_F (xDigits d)
theorem xBits (d : Nat) : SpBits (TW E (d + 1) 116) := by rw [DE116]; exact bits_F
theorem xLog (d : Nat) : SpLog (TW E (d + 1) 115) := by rw [DE115]; exact log_F
theorem xB2 (d : Nat) : SpB2 (TW E (d + 1) 117) := by rw [DE117]; exact b2_F
theorem xND (d : Nat) : SpND E (TW E (d + 2) 100) := by rw [DE100]; exact nd_F (xBits d) (xLog d) (xB2 d)
theorem xFB (d : Nat) : SpFB (TW E (d + 1) 101) := by rw [DE101]; exact fb_F (by decide)
theorem xSm (d : Nat) : SpSmall (TW E (d + 1) 99) := by rw [DE99]; exact small_F
theorem xIFI (d : Nat) : SpFI E (TW E (d + 3) 90) := by rw [DE90]; exact ifi_F (xND d) (xFB (d + 1)) (xSm (d + 1))
theorem xSFI (d : Nat) : SpFI E (TW E (d + 4) 71) := by rw [DE71]; exact sfi_F (xIFI d)
theorem xPut (d : Nat) : SpPut (TW E (d + 1) 18) := by rw [DE18]; exact put_F (by decide)
theorem xWnum (d : Nat) : SpNum E (TW E (d + 5) 54) := by rw [DE54]; exact num_F (xSFI d) (xPut (d + 3))
theorem xWbnd (d : Nat) : SpBnd E (TW E (d + 6) 55) := by rw [DE55]; exact bnd_F (xPut (d + 4)) (xWnum d)
theorem xWcon (d : Nat) : SpCon E (TW E (d + 7) 32) := by rw [DE32]; exact con_F (xPut (d + 5)) (xWbnd d)
theorem xWmark (d : Nat) : SpMark (TW E (d + 1) 31) := by rw [DE31]; exact mark_F
theorem xWnd0 {m : ModS} (hI : ConI m) (d : Nat) : SpNdP E m 0 (TW E d 19) := by
  intro Q σ P L nv tv dv i dd t _ _ h
  cases h
theorem xWnd1 {m : ModS} (hI : ConI m) (d : Nat) : SpNdP E m 1 (TW E (d + 8) 19) := by rw [DE19]; exact node_F hI (xWmark (d + 6)) (xPut (d + 6)) (xWcon d) (xWnd0 hI (d + 7))
theorem xWnd2 {m : ModS} (hI : ConI m) (d : Nat) : SpNdP E m 2 (TW E (d + 9) 19) := by rw [DE19]; exact node_F hI (xWmark (d + 7)) (xPut (d + 7)) (xWcon (d + 1)) (xWnd1 hI d)
theorem xTag (d : Nat) : SpTagg (TW E (d + 1) 17) := by rw [DE17]; exact tagg_F
theorem xPrint {m : ModS} (hm : PrOk m) (d : Nat) : SpPrint E m 2 (TW E (d + 10) 7) := by rw [DE7]; exact print_F (by decide) hm (xPut (d + 8)) (xTag (d + 8)) (xWnd2 hm.c d)
theorem xAw6 (d : Nat) : SpAw6 (TW E (d + 1) 6) := by
  intro σ ht
  obtain ⟨ρ, hf, hr⟩ := hit1 (e := eAw) (F := BD E 600000 (TW E d) 6) (fits_of (e := eAw) (ρ := fun x => x) (args := []) (σ := σ) rfl Has.nil Inj.nil)
  exact ⟨_, by rw [DE6, hr]; rfl, Few.fr0 eAw_shape (by kernel_rfl) hf ht⟩
theorem pc_run (hE : lookF E 2 = some (.cells p10C)) {a b : Int} (c : Int) (d : Bool) (h1 : In64 a) (h2 : In64 b) : okB (F3 E (TW E 59) (drawW E (TW E 59)) 600000 [.int .i64 a, .int .i64 b, .int .i64 c, .bool d] ⟨100, []⟩) = true := by
  have ht : Tidy ⟨100, []⟩ := fun _ _ => rfl
  obtain ⟨σ', h⟩ := pc_law (W := drawW E (TW E 59)) (N := 600000) (xNumber 38) (xAw6 58) (xParse 49) (fun m hm => xPrint hm 49) c d ht ⟨show 3 ≤ 100 by decide, rfl, hE⟩ h1 h2
  rw [h]; rfl
end
end Go.Proofs.YtabnjnkmdknhaaaGreatDoor
set_option maxRecDepth 100000
set_option maxHeartbeats 0
namespace Go.Proofs.YtabnjnkmdknhaaaGreatDoor.printCons
open Go
theorem k_inPlace : (Rows.printConsRow.inPlace == Tryz.pinned.checked.prog.inPlace 3) = true := by kernel_rfl
theorem k_unfollowed : (Rows.printConsRow.unfollowed == Tryz.pinned.checked.prog.unfollowed 3) = true := by kernel_rfl
theorem k_recurses : (Rows.printConsRow.recurses == Tryz.pinned.checked.prog.recurses 3) = true := by kernel_rfl
theorem k_varsNamed : (Rows.printConsRow.named == Tryz.pinned.checked.prog.varsNamed 3) = true := by kernel_rfl
end Go.Proofs.YtabnjnkmdknhaaaGreatDoor.printCons
