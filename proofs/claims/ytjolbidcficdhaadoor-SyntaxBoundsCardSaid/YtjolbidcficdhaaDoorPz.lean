/- The parser on a module of one type, which is NULL behind a tag: a type in its place, and its name. -/
import Derived.Test.YtjolbidcficdhaaDoorPy
import Derived.Test.YtjolbidcficdhaaDoorOgT2
set_option linter.all false
set_option maxRecDepth 100000
namespace Go.Proofs.YtjolbidcficdhaaDoor
open Go Go.Og
noncomputable section
def SpTyp (ts : List Tk) (j : Nat) (r : MarkR) (F : List V → H → Ans) : Prop := ∀ (σ : H) (p tb : Nat) (v0 v1 v2 v3 : V), Px σ p tb ts j (rest7 v0 v1 v2 v3 .nils 0 0) →
  ∃ σ' nb, F [.ptr p 0, .int .i64 (Int.ofNat 0)] σ = some (.tup [.int .i64 (Int.ofNat 0), .bool r.ok], σ') ∧ Px σ' p tb ts r.j2 (rest7 v0 v1 v2 v3 (.sl nb 0 1 (.op 16)) r.a r.e) ∧ Atc σ' nb r.node ∧ σ.next ≤ nb ∧ Fr (fun k => k = p) σ σ'
theorem node_len (r : MarkR) : r.node.length = 16 := by
  unfold MarkR.node; cases r.ok <;> rfl
theorem node_one (r : MarkR) : allOne r.node = true := by
  unfold MarkR.node; cases r.ok <;> rfl
section
variable {D : Den} {W : DrawFn} {N : Nat}
theorem typ_F (hP : SpSPeek (D 23)) (hB : SpBegins (D 52)) {ts : List Tk} {j : Nat} {r : MarkR} (hNd : SpNode ts j r (D 53)) {t : Tk} (ht : ts[j]? = some t) (hs : stB t (BS.mk 1 91) = true) (hk : t.1 = 6) :
    SpTyp ts j r (F44 [] D W N) := by
  intro σ p tb v0 v1 v2 v3 h
  have lp := h.lt; have ltb := h.tlt
  have pk := hP σ p tb j ts _ t h ht
  obtain ⟨σ1, g1, f1⟩ := hB σ t h.tidy hs hk
  have x1 := h.fr f1 (fun h => h) (fun h => h)
  obtain ⟨σ2, e2, f2, a2, n2⟩ := mk_new x1.tidy zero16
  have x2 := x1.fr f2 (fun h => h) (fun h => h)
  have l6 : ∀ κ : V → Ans, ldK [] σ1 p (Nat.add (Nat.add 0 2) 4) κ = κ .nils := fun κ => ldK_at x1.at_ rfl
  obtain ⟨σ3, app, a3, n3, f3⟩ := app_one (E := []) (bytes := 144) (Sl.nil σ2 16) x2.tidy a2 rfl rfl (by decide)
  have x3 := x2.fr f3 (fun h => h) (fun h => h)
  obtain ⟨σ4, e4, f4, a4⟩ := mk_set x3.tidy x3.at_ (pcells tb ts.length j (rest7 v0 v1 v2 v3 (.sl σ2.next 0 1 (.op 16)) 0 0))
  have le2 : σ.next ≤ σ1.next := f1.le
  have x4 : Px σ4 p tb ts j (rest7 v0 v1 v2 v3 (.sl σ2.next 0 1 (.op 16)) 0 0) := ⟨a4, f4.at_ x3.tok x3.tidy x3.ne, x3.ne, f4.tidy, x3.big, x3.last⟩
  have a34 : Atc σ4 σ2.next zero16 := f4.at_ a3 x3.tidy (by omega)
  obtain ⟨σ5, g5, x5, f5⟩ := hNd σ4 p tb (Int.ofNat 0) v0 v1 v2 v3 _ x4
  have a35 := f5.at_ a34 x4.tidy (by omega)
  have q15 : Fr (fun k => k = p) σ σ5 := ((((f1.mono (T := fun k => k = p) (fun _ _ h => h.elim)).trans f2 (fun _ _ h => h.elim)).trans f3 (fun _ _ h => h.elim)).trans f4 (fun _ _ h => h)).trans f5 (fun _ _ h => h)
  have head : ∀ κ : Ans, T44_0 [] D W p 0 (Int.ofNat 0) σ = κ ↔ (callK (D 53 [.ptr p 0, .int .i64 (Int.ofNat 0)] σ4) fun u32 s33 => rtTup u32 fun l34 => rtCons l34 fun x35 l36 => rtAgg x35 fun l37 =>
      rtCons l36 fun x84 l85 => rtBool x84 fun x86 => rtNil l85 (condK (not x86) (some (V.tup [.int .i64 (Int.ofNat 0), .bool false], s33)) (ldK [] s33 p (Nat.add (Nat.add 0 2) 4) fun u87 => iaddrSK 16 u87 (Int.ofNat 0) fun b88 o89 => stK 16 b88 o89 (.agg l37) s33 fun s90 => some (V.tup [.int .i64 (Int.ofNat 0), .bool true], s90)))) = κ := fun κ => by
    unfold T44_0
    rw [pk]
    simp only [callK_some_, tokV, rtAgg_agg, rtCons_cons, rtInt_int, rtStr_str, rtNil_nil]
    show callK (D 52 [tokV t] σ) _ = _ ↔ _
    rw [g1]
    simp only [callK_some_, rtBool_bool, Bool.not_true, condK_false, joinB_]
    rw [show ltF (Int.ofNat 16) (Int.ofNat 0) = false from rfl, condK_false]
    have sl0 : ∀ κ : Nat → Ans, slenK .nils κ = κ 0 := fun _ => rfl
    simp only [l6, sl0]
    rw [show leF (Int.ofNat 300) (Int.ofNat 0) = false from rfl, condK_false]
    show appK [] 16 144 .nils (.sl σ1.next 0 1 (.ex 1)) (newB σ1 (.cells zero16)) _ = κ ↔ _
    rw [e2, app, rtOne_sl, stK_at x3.at_ rfl]
    show callK (D 53 [.ptr p 0, .int .i64 (Int.ofNat 0)] (setF σ3 p (.cells (pcells tb ts.length j (rest7 v0 v1 v2 v3 (.sl σ2.next 0 1 (.op 16)) 0 0))))) _ = κ ↔ _
    rw [e4, g5]
    simp only [callK_some_, rtTup_tup, rtCons_cons, rtAgg_agg]
    unfold MarkR.node
    cases hok : r.ok
    · simp only [zero16, null16, rtCons_cons, rtInt_int, rtStr_str, rtBool_bool, rtNil_nil]
      rfl
    · simp only [zero16, null16, rtCons_cons, rtInt_int, rtStr_str, rtBool_bool, rtNil_nil]
      rfl
  cases hok : r.ok with
  | false =>
    rw [hok] at g5
    have hn : r.node = zero16 := by unfold MarkR.node; rw [hok]
    refine ⟨σ5, σ2.next, (head _).2 ?_, x5, by rw [hn]; exact a35, by omega, q15⟩
    simp only [g5, callK_some_, rtTup_tup, rtCons_cons, rtAgg_agg, rtBool_bool, rtNil_nil, Bool.not_false, condK_true]
  | true =>
    rw [hok] at g5
    have l6' : ∀ κ : V → Ans, ldK [] σ5 p (Nat.add (Nat.add 0 2) 4) κ = κ (.sl σ2.next 0 1 (.op 16)) := fun κ => ldK_at x5.at_ rfl
    obtain ⟨σ6, e6, f6, a6⟩ := mk_set x5.tidy a35 r.node
    have hne : σ2.next ≠ p := by omega
    have hnt : σ2.next ≠ tb := by omega
    have x6 := x5.fr f6 (fun h => hne h.symm) (fun h => hnt h.symm)
    have hn : r.node = null16 4 r.n r.mode := by unfold MarkR.node; rw [hok]
    refine ⟨σ6, σ2.next, (head _).2 ?_, x6, a6, by omega, q15.trans f6 (fun c hc h => by have h : c = σ2.next := h; omega)⟩
    simp only [g5, callK_some_, rtTup_tup, rtCons_cons, rtAgg_agg, rtBool_bool, rtNil_nil, Bool.not_true, condK_false, l6']
    rw [iaddrSK_lt (by omega), show Nat.add 0 (Nat.mul 0 16) = 0 from rfl, stK_at a35 (by rw [hn]; rfl)]
    have hsp : spl zero16 0 (V.agg r.node).cells = r.node := by rw [hn]; rfl
    rw [hsp, e6]
end
end
end Go.Proofs.YtjolbidcficdhaaDoor
