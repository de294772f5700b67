/- What the last text leans on, part 6 of 6: merged out of smaller texts. No condition. -/
import Derived.Test.YtgjjnbddbbhloaaGreatDoorChecked
import Derived.Test.YtgjjnbddbbhloaaGreatDoorCards
import Derived.KernelRfl
import Derived.Test.YtgjjnbddbbhloaaGreatDoorQ4
set_option linter.all false
set_option maxRecDepth 100000
namespace Go.Proofs.YtgjjnbddbbhloaaGreatDoor
open Go Go.Og
noncomputable section
def vc (k n : Int) (b l : V) (r : Int) (m : V) : List V := [.int .i64 k, .int .i64 n, b, l, .int .i64 r, m]
def bitU (u : Int) (k : Nat) : Bool := !eqF (andF .i64 u (Int.ofNat k)) (Int.ofNat 0)
def plainB (u k n : Int) (nb nl : Nat) (r : Int) (nm : Nat) : Bool :=
 (((bitU u 1 || eqF n (Int.ofNat 0)) && (bitU u 2 || eqF (Int.ofNat nb) (Int.ofNat 0))) && (bitU u 4 || eqF (Int.ofNat nl) (Int.ofNat 0))) && (bitU u 8 || (eqF r (Int.ofNat 0) && eqF (Int.ofNat nm) (Int.ofNat 0)))
def SpPlain (F : List V → H → Ans) : Prop := ∀ (σ : H) (u k n r : Int) (b l m : V) (nb nl nm : Nat), Tidy σ → Len b nb → Len l nl → Len m nm →
 ∃ σ', F [.agg (vc k n b l r m), .int .i64 u] σ = some (.bool (plainB u k n nb nl r nm), σ') ∧ Fr Nowhere σ σ'
section
variable {E : List (Nat × Blk)} {D : Den} {W : DrawFn} {N : Nat}
theorem plain_F : SpPlain (F131 E D W N) := by
 intro σ u k n r b l m nb nl nm ht hb hl hm
 obtain ⟨σ1, e1, f1, a1, n1⟩ := mk_new ht (vc k n b l r m)
 refine ⟨σ1, ?_, f1⟩
 unfold vc at *
 show T131_0 E D W k n b l r m u σ = _
 unfold T131_0
 simp -implicitDefEqProofs only [cells_agg, cells_int, cells_ptr, allOne_cons, allOne_nil, one_int, one_bool, one_str, one_nils, one_sl, one_ptr, Bool.and_true, chk_t, nthK_zero, nthK_succ, subK_2, subK_4, subK_5, subK_6, subK_13, subK_con, rtInt_int, rtBool_bool, rtStr_str, rtPtr_ptr, rtAgg_agg, rtTup_tup, rtCons_cons, rtNil_nil, rtOne_nils, rtOne_pt, rtOne_sl, slenK_nils, slenK_sl, callK_some_, condK_true, condK_false, join_or, join_and, join_id, Nat.add_eq, Nat.zero_add, Bool.not_true, Bool.not_false, rC, hb.1, hl.1, hm.1, e1, ldK_is a1, ldnK_is a1, hb.2, hl.2, hm.2]
 rfl
def withinB (h hl hh : Bool) (lo hi v : Int) : Bool := !h || ((!hl || leF lo v) && (!hh || leF v hi))
theorem within_F {σ : H} (ht : Tidy σ) (h hl hh mo : Bool) (lo hi v : Int) :
  ∃ σ', F132 E D W N [.agg [.bool h, .bool hl, .bool hh, .bool mo, .int .i64 lo, .int .i64 hi], .int .i64 v] σ = some (.bool (withinB h hl hh lo hi v), σ') ∧ Fr Nowhere σ σ' := by
 obtain ⟨σ1, e1, f1, a1, n1⟩ := mk_new ht [.bool h, .bool hl, .bool hh, .bool mo, .int .i64 lo, .int .i64 hi]
 refine ⟨σ1, ?_, f1⟩
 show T132_0 E D W h hl hh mo lo hi v σ = _
 unfold T132_0
 simp -implicitDefEqProofs only [cells_agg, cells_int, cells_ptr, allOne_cons, allOne_nil, one_int, one_bool, one_str, one_nils, one_sl, one_ptr, Bool.and_true, chk_t, nthK_zero, nthK_succ, subK_2, subK_4, subK_5, subK_6, subK_13, subK_con, rtInt_int, rtBool_bool, rtStr_str, rtPtr_ptr, rtAgg_agg, rtTup_tup, rtCons_cons, rtNil_nil, rtOne_nils, rtOne_pt, rtOne_sl, slenK_nils, slenK_sl, callK_some_, condK_true, condK_false, join_or, join_and, join_id, Nat.add_eq, Nat.zero_add, Bool.not_true, Bool.not_false, rC, e1, ldK_is a1, ldnK_is a1]
 rfl
structure Ty where
 kind : Int
 tags : V
 has : Bool
 hasLow : Bool
 hasHigh : Bool
 conMore : Bool
 low : Int
 high : Int
 items : V
 fields : V
 root : Int
 more : Bool
 of_ : Int
 oneT : tags.one = true
 oneI : items.one = true
 oneF : fields.one = true
def Ty.c (x : Ty) : List V := [.int .i64 x.kind, x.tags, .bool x.has, .bool x.hasLow, .bool x.hasHigh, .bool x.conMore, .int .i64 x.low, .int .i64 x.high, x.items, x.fields, .int .i64 x.root, .bool x.more, .int .i64 x.of_]
structure Fd where
 name : BS
 type : Int
 opt : Bool
 has : Bool
 d0 : Int
 d1 : Int
 d2 : V
 d3 : V
 d4 : Int
 d5 : V
 group : Int
 one2 : d2.one = true
 one3 : d3.one = true
 one5 : d5.one = true
def Fd.c (x : Fd) : List V := [.str x.name, .int .i64 x.type, .bool x.opt, .bool x.has, .int .i64 x.d0, .int .i64 x.d1, x.d2, x.d3, .int .i64 x.d4, x.d5, .int .i64 x.group]
def Cel (L : List V) (esz k : Nat) (c : List V) : Prop := k * esz + esz ≤ L.length ∧ (L.drop (k * esz)).take esz = c
theorem Cel.sub {L : List V} {esz k : Nat} {c : List V} (h : Cel L esz k c) (κ : List V → Ans) : subK L (0 + k * esz) esz κ = κ c := by
 rw [Nat.zero_add, subK_of h.1, h.2]
theorem Cel.get {L : List V} {esz k : Nat} {c : List V} (h : Cel L esz k c) {j : Nat} {v : V} (hj : c[j]? = some v) (κ : V → Ans) : nthK L (0 + k * esz + j) κ = κ v := by
 refine nthK_of ?_
 rw [nthF_eq, ← hj, ← h.2]
 obtain ⟨hlt, _⟩ := List.getElem?_eq_some_iff.1 hj
 have hc : c.length ≤ esz := by rw [← h.2]; simp only [List.length_take]; omega
 rw [List.getElem?_take, if_pos (by omega), List.getElem?_drop, Nat.zero_add]
structure Row (σ : H) (esz n : Nat) (v : V) (g : Nat → List V) : Prop where
 is : (n = 0 ∧ v = .nils) ∨ ∃ b c L, v = .sl b 0 n c ∧ Atc σ b L ∧ ∀ k, k < n → Cel L esz k (g k)
theorem Row.len {σ : H} {esz n : Nat} {v : V} {g : Nat → List V} (h : Row σ esz n v g) : Len v n := by
 rcases h.is with ⟨rfl, rfl⟩ | ⟨b, c, L, rfl, _⟩
 ·exact Len.nils
 ·exact Len.sl
theorem Row.fr {S : Nat → Prop} {σ σ' : H} {esz n : Nat} {v : V} {g : Nat → List V} (h : Row σ esz n v g) (f : Fr S σ σ') (ht : Tidy σ) (hS : ∀ b, Names v b → ¬ S b) : Row σ' esz n v g := by
 rcases h.is with h | ⟨b, c, L, rfl, ha, hc⟩
 ·exact ⟨.inl h⟩
 ·exact ⟨.inr ⟨b, c, L, rfl, f.at_ ha ht (hS b rfl), hc⟩⟩
theorem Row.fr0 {σ σ' : H} {esz n : Nat} {v : V} {g : Nat → List V} (h : Row σ esz n v g) (f : Fr Nowhere σ σ') (ht : Tidy σ) : Row σ' esz n v g := h.fr f ht (fun _ _ h => h)
theorem Row.all {E : List (Nat × Blk)} {σ : H} {esz n : Nat} {v : V} {g : Nat → List V} (h : Row σ esz n v g) {k : Nat} (hk : k < n) (κ : List V → Ans) :
  iaddrSK esz v (Int.ofNat k) (fun b o => ldnK E σ b o esz κ) = κ (g k) := by
 rcases h.is with ⟨rfl, rfl⟩ | ⟨b, c, L, rfl, ha, hc⟩
 ·omega
 ·rw [iaddrSK_lt hk]
  show ldnK E σ b (0 + k * esz) esz κ = _
  rw [ldnK_is ha, (hc k hk).sub]
theorem Row.one {E : List (Nat × Blk)} {σ : H} {esz n : Nat} {v : V} {g : Nat → List V} (h : Row σ esz n v g) {k : Nat} (hk : k < n) {j : Nat} {u : V} (hj : (g k)[j]? = some u) (κ : V → Ans) :
  iaddrSK esz v (Int.ofNat k) (fun b o => ldK E σ b (o + j) κ) = κ u := by
 rcases h.is with ⟨rfl, rfl⟩ | ⟨b, c, L, rfl, ha, hc⟩
 ·omega
 ·rw [iaddrSK_lt hk]
  show ldK E σ b (0 + k * esz + j) κ = _
  rw [ldK_is ha, (hc k hk).get hj]
end
end
noncomputable section
structure Ck (σ : H) (p nT : Nat) (ty : Nat → Ty) (nm : BS) (nv rv tv : V) (rest : List V) : Prop where
 at_ : Atc σ p ([.str nm, nv, rv, tv] ++ rest)
 n1 : nv.one = true
 r1 : rv.one = true
 t1 : tv.one = true
 row : Row σ 13 nT tv fun i => (ty i).c
 apart : ∀ b, Names tv b → b ≠ p
section
variable {E : List (Nat × Blk)} {D : Den} {W : DrawFn} {N : Nat} {σ σ' : H} {p nT : Nat} {ty : Nat → Ty} {nm : BS} {nv rv tv : V} {rest : List V}
theorem Ck.fr (h : Ck σ p nT ty nm nv rv tv rest) (f : Fr Nowhere σ σ') (ht : Tidy σ) : Ck σ' p nT ty nm nv rv tv rest := ⟨f.at_ h.at_ ht (fun h => h), h.n1, h.r1, h.t1, h.row.fr0 f ht, h.apart⟩
theorem Ck.types {E : List (Nat × Blk)} (h : Ck σ p nT ty nm nv rv tv rest) (κ : V → Ans) : ldK E σ p 3 κ = κ tv := by
 rw [ldK_is h.at_]; rfl
end
end
noncomputable section
structure Vc where
 k : Int
 n : Int
 b : V
 l : V
 r : Int
 m : V
 oneB : b.one = true
 oneL : l.one = true
 oneM : m.one = true
def Vc.c (x : Vc) : List V := [.int .i64 x.k, .int .i64 x.n, x.b, x.l, .int .i64 x.r, x.m]
def Vc.int (n : Int) : Vc := ⟨Int.ofNat 2, n, .nils, .nils, Int.ofNat 0, .nils, rfl, rfl, rfl⟩
def Vc.sq (l : V) (h : l.one = true) (r : Int) (m : V) (hm : m.one = true) : Vc := ⟨Int.ofNat 7, Int.ofNat 0, .nils, l, r, m, rfl, h, hm⟩
def findF (p : Nat → Bool) : Nat → Nat → Int
 | 0, _ => Int.negSucc 0
 | m + 1, i => if p i = true then Int.ofNat i else findF p m (i + 1)
def anyF (p : Nat → Bool) : Nat → Nat → Bool
 | 0, _ => false
 | m + 1, i => p i || anyF p m (i + 1)
theorem find_any (p : Nat → Bool) : ∀ m i, leF (Int.ofNat 0) (findF p m i) = anyF p m i
 | 0, i => rfl
 | m + 1, i => by
  unfold findF anyF
  by_cases h : p i = true
  ·rw [if_pos h, h]; simp only [leF_nat, Nat.zero_le, decide_true, Bool.true_or]
  ·rw [if_neg h, find_any p m (i + 1)]; simp only [Bool.not_eq_true] at h; rw [h, Bool.false_or]
theorem any_none {p : Nat → Bool} : ∀ {m i : Nat}, (∀ k, i ≤ k → k < i + m → p k = false) → anyF p m i = false
 | 0, i, _ => rfl
 | m + 1, i, h => by
  unfold anyF
  rw [h i (Nat.le_refl _) (by omega), any_none (fun k h1 h2 => h k (by omega) (by omega))]; rfl
section
variable {E : List (Nat × Blk)} {D : Den} {W : DrawFn} {N : Nat} {σ σ' : H} {p nT : Nat} {ty : Nat → Ty} {nm : BS} {nv rv tv : V} {rest : List V}
def Asks (D : Den) (σ : H) (f : Nat) (caps : List V) (n : Nat) (g : Nat → Vc) (q : Nat → Bool) : Prop := ∀ (σ1 : H) (k : Nat), k < n → Fr Nowhere σ σ1 → ∃ σ2, D f ([] ++ [.agg (g k).c] ++ caps) σ1 = some (.bool (q k), σ2) ∧ Fr Nowhere σ1 σ2
theorem ixV_F {v : V} {n : Nat} {g : Nat → Vc} {f : Nat} {caps : List V} {q : Nat → Bool} (ht : Tidy σ) (hr : Row σ 6 n v fun k => (g k).c) (hq : Asks D σ f caps n g q) (hN : n < N) (hn : n ≤ 1000000) :
  ∃ σ', F138 E D W N [v, .fn f [] caps] σ = some (.int .i64 (findF q n 0), σ') ∧ Fr Nowhere σ σ' := by
 have loop : ∀ (m n' i : Nat) (σ1 : H), i + m = n → m < n' → Fr Nowhere σ σ1 → ∃ σ2, L138_2 E D W N n' v (.fn f [] caps) (Int.ofNat n) (Int.ofNat i) σ1 = some (.int .i64 (findF q m i), σ2) ∧ Fr Nowhere σ σ2 := by
  intro m
  induction m with
  | zero =>
   intro n' i σ1 hi hn' f1
   obtain ⟨n', rfl⟩ : ∃ k, n' = k + 1 := ⟨n' - 1, by omega⟩
   refine ⟨σ1, ?_, f1⟩
   show T138_2 E D W _ _ v (.fn f [] caps) (Int.ofNat n) (Int.ofNat i) σ1 = _
   unfold T138_2
   rw [ltF_nat, decide_eq_false (by omega), condK_false]; rfl
  | succ m ih =>
   intro n' i σ1 hi hn' f1
   obtain ⟨n', rfl⟩ : ∃ k, n' = k + 1 := ⟨n' - 1, by omega⟩
   have hlt : i < n := by omega
   have r1 := hr.fr0 f1 ht
   have rd : ∀ κ, iaddrSK 6 v (Int.ofNat i) (fun b o => ldnK E σ1 b o 6 κ) = κ (g i).c := fun κ => r1.all hlt κ
   obtain ⟨σ2, g2, f2⟩ := hq σ1 i hlt f1
   have f12 := f1.trans f2 (fun _ _ h => h)
   show ∃ σ', T138_2 E D W _ (L138_2 E D W N n') v (.fn f [] caps) (Int.ofNat n) (Int.ofNat i) σ1 = _ ∧ _
   unfold T138_2
   have cv : ∀ κ, callvK D (.fn f [] caps) [.agg (g i).c] σ1 κ = κ (.bool (q i)) σ2 := fun κ => by
    show callK (D f ([] ++ [.agg (g i).c] ++ caps) σ1) κ = _
    rw [g2]; rfl
   unfold Vc.c at rd cv
   have d1 : decide (i < n) = true := decide_eq_true hlt
   simp -implicitDefEqProofs only [↓rP, rS, rQ, decide_false, decide_true, Nat.reduceEqDiff, Nat.reduceLT, Nat.reduceLeDiff, d1, ↓rd, (g i).oneB, (g i).oneL, (g i).oneM, ↓cv]
   unfold findF
   by_cases hqi : q i = true
   ·rw [hqi, condK_true, if_pos rfl]
    exact ⟨σ2, rfl, f12⟩
   ·rw [Bool.not_eq_true] at hqi
    rw [hqi, condK_false, if_neg (by simp), addF_nat (by omega)]
    exact ih n' (i + 1) σ2 (by omega) (by omega) f12
 obtain ⟨σ2, h1, h2⟩ := loop n N 0 σ (by omega) hN (Fr.refl ht)
 refine ⟨σ2, ?_, h2⟩
 show T138_0 E D W (L138_2 E D W N N) v (.fn f [] caps) σ = _
 unfold T138_0
 rw [hr.len.2]
 exact h1
def SpIx (F : List V → H → Ans) (D : Den) : Prop := ∀ {σ : H} {v : V} {n : Nat} {g : Nat → Vc} {f : Nat} {caps : List V} {q : Nat → Bool}, Tidy σ → Row σ 6 n v (fun k => (g k).c) → Asks D σ f caps n g q → n ≤ 10000 →
  ∃ σ', F [v, .fn f [] caps] σ = some (.int .i64 (findF q n 0), σ') ∧ Fr Nowhere σ σ'
def SpCf (F : List V → H → Ans) (D : Den) : Prop := ∀ {σ : H} {v : V} {n : Nat} {g : Nat → Vc} {f : Nat} {caps : List V} {q : Nat → Bool}, Tidy σ → Row σ 6 n v (fun k => (g k).c) → Asks D σ f caps n g q → n ≤ 10000 →
  ∃ σ', F [v, .fn f [] caps] σ = some (.bool (anyF q n 0), σ') ∧ Fr Nowhere σ σ'
theorem cfV_F {D' : Den} (hI : SpIx (D 138) D') : SpCf (F69 E D W N) D' := by
 intro σ v n g f caps q ht hr hq hn
 obtain ⟨σ2, h1, h2⟩ := hI ht hr hq hn
 refine ⟨σ2, ?_, h2⟩
 show T69_0 E D W v (.fn f [] caps) σ = _
 unfold T69_0
 rw [h1, callK_some_, rtInt_int, find_any]
end
end
noncomputable section
structure Wk (σ0 σ : H) (eb w : Nat) (u : V) (cs : List V) (L : List Nat) : Prop where
 pw : Pw σ w u L
 f : Fr Nowhere σ0 σ
 lo : ∀ b, Own1 w u b → σ0.next ≤ b
 e : Atc σ eb (.ptr w 0 :: cs)
 eo : Off σ w u eb
structure Tb (σ : H) (nT : Nat) (ty : Nat → Ty) (nv rv tv : V) : Prop where
 row : Row σ 13 nT tv fun i => (ty i).c
 n1 : nv.one = true
 r1 : rv.one = true
 t1 : tv.one = true
section
variable {σ0 σ σ1 : H} {eb w : Nat} {u u1 : V} {cs : List V} {L L1 : List Nat} {nT : Nat} {ty : Nat → Ty} {nm : BS} {nv rv tv : V}
theorem Tb.fr (h : Tb σ nT ty nv rv tv) (f : Fr Nowhere σ σ1) (ht : Tidy σ) : Tb σ1 nT ty nv rv tv := ⟨h.row.fr0 f ht, h.n1, h.r1, h.t1⟩
theorem Wk.tidy (k : Wk σ0 σ eb w u cs L) : Tidy σ := k.f.tidy
theorem Wk.step (k : Wk σ0 σ eb w u cs L) (s : Pst σ w u σ1 u1 L1) : Wk σ0 σ1 eb w u1 cs L1 := by
 refine ⟨s.wr, k.f.trans s.f (fun b hb hn => ?_), fun b hb => ?_, s.at_ k.tidy k.eo k.e, s.off k.eo⟩
 ·have := k.lo b hn; omega
 ·rcases hb with hb | hb
  ·exact k.lo b (.inl hb)
  ·rcases s.g b hb with h | h
   ·exact k.lo b (.inr h)
   ·exact Nat.le_trans k.f.le h
theorem Wk.fr (k : Wk σ0 σ eb w u cs L) (f : Fr Nowhere σ σ1) : Wk σ0 σ1 eb w u cs L :=
 ⟨k.pw.fr f k.tidy, k.f.trans f (fun _ _ h => h), k.lo, f.at_ k.e k.tidy (fun h => h), k.eo.fr f⟩
theorem Wk.still (k : Wk σ0 σ eb w u cs L) (s : Pst σ w u σ1 u1 L1) : Fr Nowhere σ0 σ1 := (k.step s).f
theorem Wk.enc {E : List (Nat × Blk)} (k : Wk σ0 σ eb w u cs L) (κ : V → Ans) : ldK E σ eb 0 κ = κ (.ptr w 0) := (ldK_is k.e).trans rfl
end
section
variable {E : List (Nat × Blk)} {D : Den} {W : DrawFn} {N : Nat}
def Ty.con (x : Ty) : List V := [.bool x.has, .bool x.hasLow, .bool x.hasHigh, .bool x.conMore, .int .i64 x.low, .int .i64 x.high]
end
end
noncomputable section
section
variable {E : List (Nat × Blk)} {D : Den} {W : DrawFn} {N : Nat} {σ σ' : H} {p nT : Nat} {ty : Nat → Ty} {nm : BS} {nv rv tv : V} {rest : List V}
theorem count_F {v : Vc} {n : Nat} {g : Nat → Vc} (hN : n < N) (hn : n ≤ 10000) (ht : Tidy σ) (hr : Row σ 6 n v.l fun k => (g k).c)
  (hq : ∀ (σ1 : H) (k : Nat), k < n → Fr Nowhere σ σ1 → ∃ σ2, D 66 [.agg (g k).c] σ1 = some (.int .i64 (Int.ofNat 1), σ2) ∧ Fr Nowhere σ1 σ2) :
  ∃ σ', F66 E D W N [.agg v.c] σ = some (.int .i64 (Int.ofNat (1 + n)), σ') ∧ Fr Nowhere σ σ' := by
 have loop : ∀ (m n' i : Nat) (σ1 : H), i + m = n → m < n' → Fr Nowhere σ σ1 → ∃ σ2, L66_2 E D W N n' (Int.ofNat (1 + i)) v.l (Int.ofNat n) (Int.ofNat i) σ1 = some (.int .i64 (Int.ofNat (1 + n)), σ2) ∧ Fr Nowhere σ σ2 := by
  intro m
  induction m with
  | zero =>
   intro n' i σ1 hi hn' f1
   obtain ⟨n', rfl⟩ : ∃ k, n' = k + 1 := ⟨n' - 1, by omega⟩
   refine ⟨σ1, ?_, f1⟩
   show T66_2 E D W _ _ (Int.ofNat (1 + i)) v.l (Int.ofNat n) (Int.ofNat i) σ1 = _
   unfold T66_2
   rw [ltF_nat, decide_eq_false (by omega), condK_false]
   obtain rfl : i = n := by omega
   rfl
  | succ m ih =>
   intro n' i σ1 hi hn' f1
   obtain ⟨n', rfl⟩ : ∃ k, n' = k + 1 := ⟨n' - 1, by omega⟩
   have hlt : i < n := by omega
   have rd : ∀ κ, iaddrSK 6 v.l (Int.ofNat i) (fun b o => ldnK E σ1 b o 6 κ) = κ (g i).c := fun κ => (hr.fr0 f1 ht).all hlt κ
   obtain ⟨σ2, g2, f2⟩ := hq σ1 i hlt f1
   obtain ⟨σ3, g3, f3⟩ := ih n' (i + 1) σ2 (by omega) (by omega) (f1.trans f2 (fun _ _ h => h))
   refine ⟨σ3, ?_, f3⟩
   unfold Vc.c at rd g2
   have d1 : decide (i < n) = true := decide_eq_true hlt
   have key : ∀ K1 K2, T66_2 E D W K1 K2 (Int.ofNat (1 + i)) v.l (Int.ofNat n) (Int.ofNat i) σ1 = K2 (Int.ofNat (1 + (i + 1))) v.l (Int.ofNat n) (Int.ofNat (i + 1)) σ2 := by
    intro K1 K2
    unfold T66_2
    simp -implicitDefEqProofs only [↓rP, rS, rQ, decide_false, decide_true, Nat.reduceEqDiff, Nat.reduceLT, Nat.reduceLeDiff, d1, ↓rd, (g i).oneB, (g i).oneL, (g i).oneM, ↓g2, addF_nat (show 1 + i + 1 ≤ 9223372036854775807 by omega), addF_nat (show i + 1 ≤ 9223372036854775807 by omega), Nat.add_assoc]
   exact (key _ _).trans g3
 obtain ⟨σ1, e1, f1, a1, n1⟩ := mk_new ht v.c
 obtain ⟨σ2, h1, h2⟩ := loop n N 0 σ1 (by omega) hN f1
 refine ⟨σ2, ?_, h2⟩
 unfold Vc.c at e1 a1
 have hln := hr.len.2
 have key : ∀ K, T66_0 E D W K v.k v.n v.b v.l v.r v.m σ = K (Int.ofNat 1) v.l (Int.ofNat n) (Int.ofNat 0) σ1 := by
  intro K
  unfold T66_0
  simp -implicitDefEqProofs only [↓rP, rS, rQ, decide_false, decide_true, Nat.reduceEqDiff, Nat.reduceLT, Nat.reduceLeDiff, v.oneB, v.oneL, v.oneM, ↓e1, ↓hln, ↓ldK_is a1]
 exact (key _).trans h1
theorem rules_F {D' : Den} (hC : SpCf (D 69) D') {v : Vc} {n : Nat} {g : Nat → Vc} {ru : Int} (hn : n ≤ 10000) (hv : (eqF v.r (Int.ofNat 0) || eqF v.r ru) = true) (ht : Tidy σ) (hr : Row σ 6 n v.l fun k => (g k).c)
  (hq : ∀ (σ1 : H) (q k : Nat), k < n → Fr Nowhere σ σ1 → Atc σ1 q [.int .i64 ru] → ∃ σ2, D' 70 ([] ++ [.agg (g k).c] ++ [.ptr q 0]) σ1 = some (.bool false, σ2) ∧ Fr Nowhere σ1 σ2) :
  ∃ σ', F38 E D W N [.agg v.c, .int .i64 ru] σ = some (.bool true, σ') ∧ Fr Nowhere σ σ' := by
 obtain ⟨σ1, e1, f1, a1, n1⟩ := mk_new ht v.c
 obtain ⟨σ2, e2, f2, a2, n2⟩ := mk_new f1.tidy [.int .i64 ru]
 have f02 := f1.trans f2 (fun _ _ h => h)
 have a12 := f2.at_ a1 f1.tidy (fun h => h)
 obtain ⟨σ3, g3, f3⟩ := hC (σ := σ2) (caps := [.ptr σ1.next 0]) (f := 70) (q := fun _ => false) f02.tidy (hr.fr0 f02 ht) (fun σ9 k hk f9 => hq σ9 σ1.next k hk (f02.trans f9 (fun _ _ h => h)) (f9.at_ a2 f02.tidy (fun h => h))) hn
 rw [any_none (fun _ _ _ => rfl)] at g3
 refine ⟨σ3, ?_, f02.trans f3 (fun _ _ h => h)⟩
 unfold Vc.c at e1 a12
 show T38_0 E D W v.k v.n v.b v.l v.r v.m ru σ = _
 unfold T38_0
 cases h0 : eqF v.r (Int.ofNat 0) with
 | true => simp -implicitDefEqProofs only [↓rP, rS, ltF_nat, leF_nat, v.oneB, v.oneL, v.oneM, ↓e1, ↓e2, ↓ldK_is a12, ↓ldK_is a2, h0, ↓g3]
 | false =>
  rw [h0, Bool.false_or] at hv
  simp -implicitDefEqProofs only [↓rP, rS, ltF_nat, leF_nat, v.oneB, v.oneL, v.oneM, ↓e1, ↓e2, ↓ldK_is a12, ↓ldK_is a2, h0, hv, ↓g3]
theorem Fits_F {i n : Nat} {v : Vc} (hn : n ≤ 5000) (ht : Tidy σ) (hr : Row σ 13 nT tv fun i => (ty i).c) (h1 : nv.one = true) (h2 : rv.one = true) (h3 : tv.one = true)
  (hF : ∀ (σ1 : H) (p : Nat), Tidy σ1 → Fr Nowhere σ σ1 → Ck σ1 p nT ty nm nv rv tv [.bool false] → ∃ σ2, D 65 [.ptr p 0, .int .i64 (Int.ofNat i), .agg v.c, .int .i64 (Int.ofNat 1)] σ1 = some (.bool true, σ2) ∧ Fr Nowhere σ1 σ2)
  (hC : ∀ σ1 : H, Tidy σ1 → Fr Nowhere σ σ1 → ∃ σ2, D 66 [.agg v.c] σ1 = some (.int .i64 (Int.ofNat n), σ2) ∧ Fr Nowhere σ1 σ2) :
  ∃ σ', F36 E D W N [.agg [.str nm, nv, rv, tv], .int .i64 (Int.ofNat i), .agg v.c] σ = some (.bool true, σ') ∧ Fr Nowhere σ σ' := by
 obtain ⟨σ1, e1, f1, a1, n1⟩ := mk_new ht [.str nm, nv, rv, tv]
 obtain ⟨σ2, e2, f2, a2, n2⟩ := mk_new f1.tidy v.c
 obtain ⟨σ3, e3, f3, a3, n3⟩ := mk_new f2.tidy [.str nm, nv, rv, tv, .bool false]
 have f02 := f1.trans f2 (fun _ _ h => h)
 have f03 := f02.trans f3 (fun _ _ h => h)
 have r3 := hr.fr0 f03 ht
 have c3 : Ck σ3 σ2.next nT ty nm nv rv tv [.bool false] := ⟨a3, h1, h2, h3, r3, fun b hb e => by
  subst e
  have lo := f02.le
  rcases hr.is with ⟨_, rfl⟩ | ⟨b, c, L, rfl, ha, _⟩
  ·exact hb
  ·have := ha.lt ht
   have hb : σ2.next = b := hb
   omega⟩
 obtain ⟨σ4, g4, f4⟩ := hF σ3 σ2.next f3.tidy f03 c3
 have f04 := f03.trans f4 (fun _ _ h => h)
 obtain ⟨σ5, g5, f5⟩ := hC σ4 f4.tidy f04
 have a12 := f2.at_ a1 f1.tidy (fun h => h)
 have a23 := f3.at_ a2 f2.tidy (fun h => h)
 have a24 := f4.at_ a23 f3.tidy (fun h => h)
 have d1 : decide (n ≤ 5000) = true := decide_eq_true hn
 refine ⟨σ5, ?_, f04.trans f5 (fun _ _ h => h)⟩
 unfold Vc.c at e2 a2 a23 a24 g4 g5
 show T36_0 E D W nm nv rv tv (Int.ofNat i) v.k v.n v.b v.l v.r v.m σ = _
 unfold T36_0
 simp -implicitDefEqProofs only [↓rP, rS, rQ, decide_false, decide_true, Nat.reduceEqDiff, Nat.reduceLT, Nat.reduceLeDiff, h1, h2, h3, v.oneB, v.oneL, v.oneM, ↓e1, ↓e2, ↓e3, ↓ldnK_is a12, ↓ldnK_is a23, ↓ldnK_is a24, ↓g4, ↓g5, d1]
end
section
variable {E : List (Nat × Blk)} {D : Den} {W : DrawFn} {N : Nat} {nT : Nat} {ty : Nat → Ty} {nm : BS} {nv rv tv : V}
theorem encX_F {i : Nat} {v : Vc} {σ : H} (ht : Tidy σ) (h1 : nv.one = true) (h2 : rv.one = true) (h3 : tv.one = true)
  (hFi : ∀ σ1, Tidy σ1 → Fr Nowhere σ σ1 → ∃ σ', D 36 [.agg [.str nm, nv, rv, tv], .int .i64 (Int.ofNat i), .agg v.c] σ1 = some (.bool true, σ') ∧ Fr Nowhere σ1 σ')
  (hRo : ∀ σ1, Tidy σ1 → Fr Nowhere σ σ1 → ∃ σ', D 37 [.agg [.str nm, nv, rv, tv]] σ1 = some (.bool true, σ') ∧ Fr Nowhere σ1 σ')
  (hRu : ∀ σ1, Tidy σ1 → Fr Nowhere σ σ1 → ∃ σ', D 38 [.agg v.c, .int .i64 (Int.ofNat 2)] σ1 = some (.bool true, σ') ∧ Fr Nowhere σ1 σ')
  (hV : ∀ (σ0 σ1 : H) (eb w : Nat), Tidy σ0 → Fr Nowhere σ σ0 → Wk σ0 σ1 eb w .nils [.str nm, nv, rv, tv] [] → ∃ Z u' σ', (0 < Z.length ∧ Z.length ≤ 560000) ∧ D 39 [.ptr eb 0, .int .i64 (Int.ofNat i), .agg v.c] σ1 = some (.tup [], σ') ∧ Pst σ1 w .nils σ' u' Z)
  (hB : SpWBytes (D 40)) :
  ∃ b σ', F15 E D W N [.agg [.str nm, nv, rv, tv], .int .i64 (Int.ofNat i), .agg v.c] σ = some (.tup [b, .int .i64 (Int.ofNat 0)], σ') ∧ b.one = true ∧ Fr Nowhere σ σ' := by
 obtain ⟨σ1, e1, f1, a1, n1⟩ := mk_new ht [.str nm, nv, rv, tv]
 obtain ⟨σ2, e2, f2, a2, n2⟩ := mk_new f1.tidy v.c
 have f02 := f1.trans f2 (fun _ _ h => h)
 obtain ⟨σ3, g3, f3⟩ := hFi σ2 f02.tidy f02
 have f03 := f02.trans f3 (fun _ _ h => h)
 obtain ⟨σ4, g4, f4⟩ := hRo σ3 f03.tidy f03
 have f04 := f03.trans f4 (fun _ _ h => h)
 obtain ⟨σ5, g5, f5⟩ := hRu σ4 f04.tidy f04
 have f05 := f04.trans f5 (fun _ _ h => h)
 obtain ⟨σ6, e6, f6, a6, n6⟩ := mk_new f05.tidy [.nils, .int .i64 (Int.ofNat 0)]
 obtain ⟨σ7, e7, f7, a7, n7⟩ := mk_new f6.tidy [.ptr σ5.next 0, .str nm, nv, rv, tv]
 have f57 := f6.trans f7 (fun _ _ h => h)
 have l6 := f6.le
 have a67 := f7.at_ a6 f6.tidy (fun h => h)
 have p7 : Pw σ7 σ5.next .nils [] := ⟨a67, Dst.nil σ7 1, fun h => h.elim, fun b hb => by cases hb⟩
 have k7 : Wk σ5 σ7 σ6.next σ5.next .nils [.str nm, nv, rv, tv] [] := ⟨p7, f57, fun b hb => by
  rcases hb with hb | hb
  ·exact Nat.le_of_eq hb.symm
  ·exact hb.elim, a7, ⟨a7.lt f7.tidy, by omega, fun h => h.elim⟩⟩
 obtain ⟨Z, u8, σ8, ⟨hZ, hZ'⟩, g8, s8⟩ := hV σ5 σ7 σ6.next σ5.next f05.tidy f05 k7
 have k8 := k7.step s8
 obtain ⟨b, σ9, g9, n9, f9⟩ := hB σ8 σ5.next u8 Z k8.pw k8.tidy (by omega) hZ
 have l5 := f05.le
 have l58 := k8.f.le
 refine ⟨b, σ9, ?_, n9.1.one, (f05.trans k8.f (fun _ _ h => h)).trans f9 (fun _ _ h => h)⟩
 have a12 := f2.at_ a1 f1.tidy (fun h => h)
 have a13 := f3.at_ a12 f02.tidy (fun h => h)
 have a23 := f3.at_ a2 f02.tidy (fun h => h)
 have a24 := f4.at_ a23 f03.tidy (fun h => h)
 have a14 := f4.at_ a13 f03.tidy (fun h => h)
 have a15 := f5.at_ a14 f04.tidy (fun h => h)
 have a16 := f6.at_ a15 f05.tidy (fun h => h)
 have a25 := f5.at_ a24 f04.tidy (fun h => h)
 have a27 := f57.at_ a25 f05.tidy (fun h => h)
 have ee : ∀ κ : V → Ans, ldK E σ8 σ6.next 0 κ = κ (.ptr σ5.next 0) := k8.enc
 have lb : ∀ κ : Nat → Ans, slenK b κ = κ (packN Z.length) := fun κ => by rw [n9.by_.slen, nI_length, pack_length]
 have d7 : decide (70000 < packN Z.length) = false := decide_eq_false (by unfold packN; omega)
 unfold Vc.c at e2 a12 a2 a23 a24 a25 a27 g3 g5 g8
 show T15_0 E D W nm nv rv tv (Int.ofNat i) v.k v.n v.b v.l v.r v.m σ = _
 unfold T15_0
 simp -implicitDefEqProofs only [↓rP, rS, rQ, decide_false, decide_true, Nat.reduceEqDiff, Nat.reduceLT, Nat.reduceLeDiff, h1, h2, h3, v.oneB, v.oneL, v.oneM, ↓e1, ↓ldnK_is a12, ↓e2, ↓ldnK_is a2, ↓g3, ↓ldnK_is a13, ↓g4, ↓ldnK_is a24, ↓g5, ↓e6, ↓ldnK_is a16, ↓e7, ↓ldnK_is a27, ↓g8, ↓ee, ↓g9, ↓rtOne_of n9.1.one, ↓lb, d7]
end
end
noncomputable section
def tyO (t0 : Nat) : Ty := ⟨Int.ofNat 5, .sl t0 0 1 (.ex 1), false, false, false, false, Int.ofNat 0, Int.ofNat 0, .nils, .nils, Int.ofNat 0, false, Int.ofNat 0, rfl, rfl, rfl⟩
def Vc.oct (u : V) (h : u.one = true) : Vc := ⟨Int.ofNat 5, Int.ofNat 0, u, .nils, Int.ofNat 0, .nils, h, rfl, rfl⟩
def SpStr (F : List V → H → Ans) : Prop := ∀ (σ : H) (p t0 : Nat) (u : V) (n : Nat), Tidy σ → Len u n → n ≤ 70000 → ∃ σ', F [.ptr p 0, .agg (tyo t0), .agg (vo u)] σ = some (.bool true, σ') ∧ Fr Nowhere σ σ'
def SpE2 (F : List V → H → Ans) : Prop := ∀ (σ0 σ : H) (eb w ce ve : Nat) (u x : V) (cs : List V) (L O : List Nat), Wk σ0 σ eb w u cs L → L.length < 1000 → Atc σ ce [.ptr eb 0] → Atc σ ve (vo x) → Off σ w u ce → Off σ w u ve → By σ x (nI O) → (∀ c ∈ O, c < 256) → O.length < 69000 →
 ∃ X u' σ', (0 < X.length ∧ X.length ≤ 8 * O.length + 40) ∧ F [.ptr ce 0, .ptr ve 0] σ = some (.tup [], σ') ∧ Pst σ w u σ' u' (L ++ X)
def SpES (F : List V → H → Ans) : Prop := ∀ (σ0 σ : H) (eb w ce ve : Nat) (u x g : V) (cs : List V) (L O : List Nat), Wk σ0 σ eb w u cs L → L.length < 1000 → Atc σ ce [.ptr eb 0] → Atc σ ve (vo x) → Off σ w u ce → Off σ w u ve → By σ x (nI O) → (∀ c ∈ O, c < 256) → O.length < 69000 → g.one = true →
 ∃ X u' σ', (0 < X.length ∧ X.length ≤ 8 * O.length + 40) ∧ F [.ptr eb 0, .agg con0, .int .i64 (Int.ofNat O.length), g, .fn 78 [] [.ptr ce 0, .ptr ve 0]] σ = some (.tup [], σ') ∧ Pst σ w u σ' u' (L ++ X)
section
variable {E : List (Nat × Blk)} {D : Den} {W : DrawFn} {N : Nat}
theorem string_F (hP : SpPlain (D 131)) (hI : SpIn0 (D 132)) : SpStr (F134 E D W N) := by
 intro σ p t0 u n ht hu hn
 obtain ⟨σ1, e1, f1, a1, n1⟩ := mk_new ht (tyo t0)
 obtain ⟨σ2, e2, f2, a2, n2⟩ := mk_new f1.tidy (vo u)
 obtain ⟨σ3, g3, f3⟩ := hP σ2 (Int.ofNat 2) (Int.ofNat 5) (Int.ofNat 0) (Int.ofNat 0) u .nils .nils n 0 0 f2.tidy hu Len.nils Len.nils
 obtain ⟨σ4, g4, f4⟩ := hI σ3 (Int.ofNat n) f3.tidy
 have z : ∀ b : Nat, ¬ Nowhere b := fun _ h => h
 have b1 := f3.at_ (f2.at_ a1 f1.tidy (z _)) f2.tidy (z _)
 have b2 := f3.at_ a2 f2.tidy (z _)
 have c1 := f4.at_ b1 f3.tidy (z _)
 have hp : plainB (Int.ofNat 2) (Int.ofNat 5) (Int.ofNat 0) n 0 (Int.ofNat 0) 0 = true := rfl
 rw [hp] at g3
 have uo := hu.1
 have d1 : decide (n ≤ 70000) = true := decide_eq_true hn
 refine ⟨σ4, ?_, ((f1.trans f2 (fun _ _ h => h)).trans f3 (fun _ _ h => h)).trans f4 (fun _ _ h => h)⟩
 have s1 : ∀ κ : List V → Ans, ldnK E σ3 σ.next 2 6 κ = κ con0 := fun κ => (ldnK_is b1).trans rfl
 unfold con0 at s1 g4
 unfold tyo at e1 b1 c1
 unfold vo at e2 a2 b2
 unfold vc at g3
 show T134_0 E D W (.ptr p 0) (Int.ofNat 5) (.sl t0 0 1 (.ex 1)) false false false false (Int.ofNat 0) (Int.ofNat 0) .nils .nils (Int.ofNat 0) false (Int.ofNat 0) (Int.ofNat 5) (Int.ofNat 0) u .nils (Int.ofNat 0) .nils σ = _
 unfold T134_0
 simp -implicitDefEqProofs only [↓rP, rS, rQ, decide_false, decide_true, Nat.reduceEqDiff, Nat.reduceLT, Nat.reduceLeDiff, uo, ↓rtOne_of uo, ↓e1, ↓e2, ↓ldnK_is a2, ↓g3, ↓ldK_is b2, ↓hu.2, d1, ↓ldK_is b1, ↓s1, ↓g4, ↓ldK_is c1]
theorem fitsOct_F {σ : H} {p nT : Nat} {ty : Nat → Ty} {nm : BS} {nv rv tv : V} {rest : List V} (hS : SpStr (D 134)) (ht : Tidy σ) (hc : Ck σ p nT ty nm nv rv tv rest) {i dp t0 : Nat} (hi : i < nT) (hd : dp ≤ 17) (hk : ty i = tyO t0) {u : V} {n : Nat} (hu : Len u n) (hn : n ≤ 70000) :
  ∃ σ', F65 E D W N [.ptr p 0, .int .i64 (Int.ofNat i), .agg (vo u), .int .i64 (Int.ofNat dp)] σ = some (.bool true, σ') ∧ Fr Nowhere σ σ' := by
 obtain ⟨σ1, e1, f1, a1, n1⟩ := mk_new ht (vo u)
 have c1 := hc.fr f1 ht
 obtain ⟨σ2, g2, f2⟩ := hS σ1 p t0 u n f1.tidy hu hn
 have rd : ∀ κ, iaddrSK 13 tv (Int.ofNat i) (fun b o => ldnK E σ1 b o 13 κ) = κ (tyo t0) := fun κ => by
  have := c1.row.all (E := E) hi κ
  rw [this, hk]; rfl
 have hl := c1.row.len
 have uo := hu.1
 refine ⟨σ2, ?_, f1.trans f2 (fun _ _ h => h)⟩
 unfold vo at e1 a1 g2
 unfold tyo at rd g2
 have d1 : decide (nT ≤ i) = false := decide_eq_false (by omega)
 have d2 : decide (17 < dp) = false := decide_eq_false (by omega)
 show T65_0 E D W (T65_2 E D W (T65_3 E D W (J65_1 E D W N))) p 0 (Int.ofNat i) (Int.ofNat 5) (Int.ofNat 0) u .nils (Int.ofNat 0) .nils (Int.ofNat dp) σ = _
 unfold T65_0 T65_2
 simp -implicitDefEqProofs only [↓rP, rS, rQ, decide_false, decide_true, Nat.reduceEqDiff, Nat.reduceLT, Nat.reduceLeDiff, Nat.not_lt_zero, uo, ↓rtOne_of uo, ↓e1, ↓c1.types, ↓hl.2, d1, d2, ↓rd, ↓ldK_is a1, ↓ldnK_is a1, ↓g2]
theorem esize_F (hF : SpFix0 (D 150)) (hI : SpIn0 (D 132)) (hC : SpE2 (D 78)) : SpES (F75 E D W N) := by
 intro σ0 σ eb w ce ve u x g cs L O k hl ac av oc ov hx hb hO hg
 have ht := k.tidy
 obtain ⟨σ1, e1, f1, a1, n1⟩ := mk_new ht con0
 obtain ⟨σ2, g2, f2⟩ := hI σ1 (Int.ofNat O.length) f1.tidy
 obtain ⟨σ3, g3, f3⟩ := hF σ2 f2.tidy
 have f02 := f1.trans f2 (fun _ _ h => h)
 have f03 := f02.trans f3 (fun _ _ h => h)
 have z : ∀ b : Nat, ¬ Nowhere b := fun _ h => h
 have a2 := f2.at_ a1 f1.tidy (z _)
 obtain ⟨X, u', σ4, hX, g4, s4⟩ := hC σ0 σ3 eb w ce ve u x cs L O (k.fr f03) hl (f03.at_ ac ht (z _)) (f03.at_ av ht (z _)) (oc.fr f03) (ov.fr f03) (Src.fr hx f03 ht (fun b _ => z b)) hb hO
 refine ⟨X, u', σ4, hX, ?_, Pst.behind f03 s4⟩
 have cv : ∀ κ : V → H → Ans, callvK D (.fn 78 [] [.ptr ce 0, .ptr ve 0]) [] σ3 κ = κ (.tup []) σ4 := fun κ => by
  show callK (D 78 [.ptr ce 0, .ptr ve 0] σ3) κ = _
  rw [g4]; rfl
 unfold con0 at e1 a1 a2 g2 g3 ⊢
 show T75_0 E D W (T75_1 E D W) eb 0 false false false false (Int.ofNat 0) (Int.ofNat 0) (Int.ofNat O.length) g (.fn 78 [] [.ptr ce 0, .ptr ve 0]) σ = _
 unfold T75_0 T75_1
 simp -implicitDefEqProofs only [↓rP, rS, rQ, decide_false, decide_true, Nat.reduceEqDiff, Nat.reduceLT, Nat.reduceLeDiff, ↓e1, ↓ldnK_is a1, ↓g2, ↓ldK_is a2, ↓ldnK_is a2, ↓g3, ↓cv]
theorem voct_e {nT : Nat} {ty : Nat → Ty} {i t0 : Nat} (hS : SpES (D 75)) (hi : i < nT) (hk : ty i = tyO t0) {σ0 σ : H} {eb w : Nat} {u x : V} {nm : BS} {nv rv tv : V} {O : List Nat} (ht0 : Tidy σ0) (T : Tb σ0 nT ty nv rv tv) (k : Wk σ0 σ eb w u [.str nm, nv, rv, tv] []) (hx : By σ0 x (nI O)) (hb : ∀ c ∈ O, c < 256) (hO : O.length < 69000) :
  ∃ X u' σ', (0 < X.length ∧ X.length ≤ 8 * O.length + 40) ∧ F39 E D W N [.ptr eb 0, .int .i64 (Int.ofNat i), .agg (vo x)] σ = some (.tup [], σ') ∧ Pst σ w u σ' u' X := by
 obtain ⟨σ1, e1, f1, a1, n1⟩ := mk_new k.tidy [.ptr eb 0]
 obtain ⟨σ2, e2, f2, a2, n2⟩ := mk_new f1.tidy (vo x)
 obtain ⟨σ3, e3, f3, a3, n3⟩ := mk_new f2.tidy [.int .i64 (Int.ofNat 0), .nils, .bool false, .bool false, .bool false, .bool false, .int .i64 (Int.ofNat 0), .int .i64 (Int.ofNat 0), .nils, .nils, .int .i64 (Int.ofNat 0), .bool false, .int .i64 (Int.ofNat 0)]
 obtain ⟨σ4, e4, f4, a4⟩ := mk_set f3.tidy a3 (tyo t0)
 have f02 := f1.trans f2 (fun _ _ h => h)
 have l1 := f1.le
 have l2 := f02.le
 have f24 : Fr Nowhere σ2 σ4 := f3.trans f4 (fun b hb e => by omega)
 have f04 := f02.trans f24 (fun _ _ h => h)
 have k2 := k.fr f02
 have k4 := k.fr f04
 have z : ∀ b : Nat, ¬ Nowhere b := fun _ h => h
 have a12 := f2.at_ a1 f1.tidy (z _)
 have a14 := f24.at_ a12 f2.tidy (z _)
 have a24 := f24.at_ a2 f2.tidy (z _)
 obtain ⟨X, u5, σ5, hX, g5, s5⟩ := hS σ0 σ4 eb w σ.next σ1.next u x (.fn 76 [] [.ptr σ.next 0, .ptr σ1.next 0]) _ [] O k4 (by decide) a14 a24 (Off.pw k.pw k.tidy (Nat.le_refl _) (a14.lt f24.tidy)) (Off.pw k.pw k.tidy l1 (a24.lt f24.tidy)) (Src.fr hx k4.f ht0 (fun b _ => z b)) hb hO rfl
 refine ⟨X, u5, σ5, hX, ?_, Pst.behind f04 s5⟩
 have xo : x.one = true := Src.one hx
 have sx : ∀ κ : Nat → Ans, slenK x κ = κ O.length := fun κ => by rw [hx.slen, nI_length]
 have rd : ∀ κ, iaddrSK 13 tv (Int.ofNat i) (fun b o => ldnK E σ2 b o 13 κ) = κ (tyo t0) := fun κ => by
  have := (T.row.fr0 k2.f ht0).all (E := E) hi κ
  rw [this, hk]; rfl
 have st : ∀ κ : H → Ans, stK 13 σ2.next 0 (.agg (tyo t0)) σ3 κ = κ σ4 := fun κ => by
  rw [stK_at a3 rfl]
  show κ (setF σ3 σ2.next (.cells (tyo t0))) = _
  rw [e4]
 have ee := k2.e
 have l4 : ∀ κ : List V → Ans, ldnK E σ4 σ2.next 2 6 κ = κ con0 := fun κ => (ldnK_is a4).trans rfl
 unfold con0 at l4 g5
 unfold tyo at rd st a4
 unfold vo at e2 a2 a24 ⊢
 show T39_0 E D W (T39_1 E D W) (.ptr eb 0) (Int.ofNat i) (Int.ofNat 5) (Int.ofNat 0) x .nils (Int.ofNat 0) .nils σ = _
 unfold T39_0
 simp -implicitDefEqProofs only [↓rP, rS, rQ, decide_false, decide_true, Nat.reduceEqDiff, Nat.reduceLT, Nat.reduceLeDiff, xo, ↓rtOne_of xo, ↓e1, ↓e2, ↓ldK_is a12, ↓ldK_is ee, ↓rd, ↓e3, ↓st, ↓ldK_is a4, ↓ldK_is a14, ↓l4, ↓ldK_is a24, ↓sx, ↓g5]
end
section
variable {E : List (Nat × Blk)} {D : Den} {N : Nat}
theorem e2_F (hP : SpLPutX (D 74)) : SpE2 (F78 E D (drawW E D) N) := by
 intro σ0 σ eb w ce ve u x cs L O wk hl ac av oc ov hx hb hO
 have ht := wk.tidy
 have fw : Fr Nowhere σ ⟨σ.next + 8, σ.bl⟩ := (go_start (E := E) (n := 8) (S := Nowhere) ht).fr
 obtain ⟨σa, ha⟩ : ∃ σa, σa = (⟨σ.next + 8, (σ.next + 6, .cells [x]) :: σ.bl⟩ : H) := ⟨_, rfl⟩
 have fa : Fr Nowhere σ σa := by
  rw [ha]
  refine ⟨fun b hb => ?_, Nat.le_add_right _ _, fun b hb hn => ?_⟩
  ·have hb : σ.next + 8 ≤ b := hb
   show lookF ((σ.next + 6, _) :: σ.bl) b = none
   rw [lookF_cons, if_neg (by simp only []; omega)]
   exact ht b (by omega)
  ·show lookF ((σ.next + 6, _) :: σ.bl) b = _
   rw [lookF_cons, if_neg (by simp only []; omega)]
 have aa : Atc σa (σ.next + 6) [x] := by
  rw [ha]
  show lookF ((σ.next + 6, _) :: σ.bl) _ = _
  rw [lookF_cons, if_pos rfl]
 have wa := wk.fr fa
 obtain ⟨X, u5, σ5, hX, g5, s5⟩ := hP σa w (σ.next + 6) u x L O wa.pw wa.tidy hl hO hb aa (Src.fr hx fa ht (fun _ _ h => h))
 have lw : ∀ b, Own1 w u b → b < σ.next := fun b hb => by
  rcases hb with hb | hb
  ·subst hb; exact wk.pw.at_.lt ht
  ·exact wk.pw.d.lt ht hb
 have ae := wk.e
 have xo : x.one = true := Src.one hx
 have xb : V.beq x x = true := by
  rcases hx with ⟨_, rfl, _⟩ | ⟨_, _, _, _, rfl, _⟩ <;> exact beq_self _ rfl
 have av' : Atc σ ve [.int .i64 (Int.ofNat 5), .int .i64 (Int.ofNat 0), x, .nils, .int .i64 (Int.ofNat 0), .nils] := av
 have go : Goes E D σ 8 0 (Own1 w u) G78_0 H78_0 ⟨[(0, .ptr ce 0), (1, .ptr ve 0)], σ.next + 8, [σ.bl], [], 0, []⟩ _ σ5 :=
  go_l (.ptr eb 0) (go_start ht) rfl (old_ld1 (b := ce) (off := 0) rfl ac rfl ht oc.not (beq_self _ rfl)) fun _ r1 =>
  go_p (.ptr eb 0) rfl rfl <|
  go_p (.ptr eb 0) rfl rfl <|
  go_l (.ptr w 0) r1 rfl (old_ld1 (b := eb) (off := 0) rfl ae rfl ht wk.eo.not (beq_self _ rfl)) fun _ r2 =>
  go_p (.ptr ve 2) rfl rfl <|
  go_l x r2 rfl (old_ld1 (b := ve) (off := 2) rfl av' rfl ht ov.not xb) fun _ r3 =>
  go_a (.sl (σ.next + 6) 0 1 (.ex 1)) (.cells [x]) 64 r3 rfl (by decide) (by decide) (build1 rfl xo) fun _ r4 =>
  go_k (.tup []) (by rw [← ha] at r4; exact r4) rfl (by decide) (S' := Own1 w u) s5.f (fun _ _ h => h) (fun b h h1 _ => by have := lw b h; omega) (call_of (vs := [.ptr w 0, .sl (σ.next + 6) 0 1 (.ex 1)]) rfl rfl g5) fun _ _ _ r5 =>
  go_nil r5
 obtain ⟨d1, d2⟩ := go_draw (ops := G78_0) go
 refine ⟨X, u5, σ5, hX, ?_, Pst.behind fa s5⟩
 show T78_0 E D (drawW E D) (.ptr ce 0) (.ptr ve 0) σ = _
 unfold T78_0
 rw [d1]; rfl
end
end
set_option maxHeartbeats 0
noncomputable section
def t0 : BS := ⟨46, 160418944393485329586644618158347586224128716560274648574092807781481247768601119658093028081099059453879394381⟩
def eT : Few := ⟨100, [.str t0],
 [],
 .tup [.agg [.str ⟨1, 77⟩, .sl 160 0 1 (.op 1), .sl 191 0 1 (.op 1), .sl 189 0 1 (.op 13)], .bool true], 204,
 [(160, .cells [.str ⟨1, 65⟩]),
 (177, .cells [.int .i64 (Int.ofNat 0), .int .i64 (Int.ofNat 4)]),
 (189, .cells [.int .i64 (Int.ofNat 5), .sl 177 0 1 (.ex 1), .bool false, .bool false, .bool false, .bool false, .int .i64 (Int.ofNat 0), .int .i64 (Int.ofNat 0), .nils, .nils, .int .i64 (Int.ofNat 0), .bool false, .int .i64 (Int.ofNat 0)]),
 (191, .cells [.int .i64 (Int.ofNat 0)])]⟩
theorem eT_right : eT.right 2 ((DT [] 100000 60) 13) = true := by kernel_rfl
theorem eT_shape : eT.shape = true := by kernel_rfl
def eAw : Few := ⟨100, [],
 [],
 .bool true, 768,
 []⟩
theorem eAw_right : eAw.right 2 ((DT [] 100000 60) 31) = true := by kernel_rfl
theorem eAw_shape : eAw.shape = true := by kernel_rfl
def eMade : Few := ⟨204, [.agg [.str ⟨1, 77⟩, .sl 160 0 1 (.op 1), .sl 191 0 1 (.op 1), .sl 189 0 1 (.op 13)]],
 [(160, .cells [.str ⟨1, 65⟩]),
 (177, .cells [.int .i64 (Int.ofNat 0), .int .i64 (Int.ofNat 4)]),
 (189, .cells [.int .i64 (Int.ofNat 5), .sl 177 0 1 (.ex 1), .bool false, .bool false, .bool false, .bool false, .int .i64 (Int.ofNat 0), .int .i64 (Int.ofNat 0), .nils, .nils, .int .i64 (Int.ofNat 0), .bool false, .int .i64 (Int.ofNat 0)]),
 (191, .cells [.int .i64 (Int.ofNat 0)])],
 .bool true, 208,
 [(160, .cells [.str ⟨1, 65⟩]),
 (177, .cells [.int .i64 (Int.ofNat 0), .int .i64 (Int.ofNat 4)]),
 (189, .cells [.int .i64 (Int.ofNat 5), .sl 177 0 1 (.ex 1), .bool false, .bool false, .bool false, .bool false, .int .i64 (Int.ofNat 0), .int .i64 (Int.ofNat 0), .nils, .nils, .int .i64 (Int.ofNat 0), .bool false, .int .i64 (Int.ofNat 0)]),
 (191, .cells [.int .i64 (Int.ofNat 0)])]⟩
theorem eMade_right : eMade.right 2 ((DT [] 100000 60) 49) = true := by kernel_rfl
theorem eMade_shape : eMade.shape = true := by kernel_rfl
def eRo : Few := ⟨204, [.agg [.str ⟨1, 77⟩, .sl 160 0 1 (.op 1), .sl 191 0 1 (.op 1), .sl 189 0 1 (.op 13)]],
 [(160, .cells [.str ⟨1, 65⟩]),
 (177, .cells [.int .i64 (Int.ofNat 0), .int .i64 (Int.ofNat 4)]),
 (189, .cells [.int .i64 (Int.ofNat 5), .sl 177 0 1 (.ex 1), .bool false, .bool false, .bool false, .bool false, .int .i64 (Int.ofNat 0), .int .i64 (Int.ofNat 0), .nils, .nils, .int .i64 (Int.ofNat 0), .bool false, .int .i64 (Int.ofNat 0)]),
 (191, .cells [.int .i64 (Int.ofNat 0)])],
 .bool true, 206,
 [(160, .cells [.str ⟨1, 65⟩]),
 (177, .cells [.int .i64 (Int.ofNat 0), .int .i64 (Int.ofNat 4)]),
 (189, .cells [.int .i64 (Int.ofNat 5), .sl 177 0 1 (.ex 1), .bool false, .bool false, .bool false, .bool false, .int .i64 (Int.ofNat 0), .int .i64 (Int.ofNat 0), .nils, .nils, .int .i64 (Int.ofNat 0), .bool false, .int .i64 (Int.ofNat 0)]),
 (191, .cells [.int .i64 (Int.ofNat 0)])]⟩
theorem eRo_right : eRo.right 2 ((DT [] 100000 60) 37) = true := by kernel_rfl
theorem eRo_shape : eRo.shape = true := by kernel_rfl
def eFx : Few := ⟨100, [.agg [.bool false, .bool false, .bool false, .bool false, .int .i64 (Int.ofNat 0), .int .i64 (Int.ofNat 0)]],
 [],
 .tup [.int .u64 (Int.ofNat 0), .bool false], 103,
 []⟩
theorem eFx_right : eFx.right 2 ((DT [] 100000 60) 150) = true := by kernel_rfl
theorem eFx_shape : eFx.shape = true := by kernel_rfl
end
noncomputable section
def kn : List (Nat × List Few) := [(13, [eT]), (31, [eAw]), (49, [eMade]), (37, [eRo]), (150, [eFx])]
def TW (E : List (Nat × Blk)) (d : Nat) : Den := Nat.rec (fun _ _ _ => none) (fun _ ih f => match lookF kn f with
 | some l => locF l (BD E 600000 ih f)
 | none => BD E 600000 ih f) d
theorem kn_right : ∀ p ∈ kn, ∀ e ∈ p.2, e.right 2 (DT [] 100000 60 p.1) = true := by
 unfold kn
 simp only [List.forall_mem_cons, List.not_mem_nil, false_implies, implies_true, and_true]
 exact ⟨eT_right, eAw_right, eMade_right, eRo_right, eFx_right⟩
theorem TW_ok (E : List (Nat × Blk)) : ∀ (d : Nat) (f : FuncId), SoundFn Tryz.prog E glob f (TW E d f) := by
 intro d
 induction d with
 | zero => intro f C _ _ R σ w args xs v σ' h; cases h
 | succ d ih =>
  intro f
  show SoundFn Tryz.prog E glob f (match lookF kn f with
   | some l => locF l (BD E 600000 (TW E d) f)
   | none => BD E 600000 (TW E d) f)
  split
  ·rename_i l hl
   rw [lookF_eq] at hl
   exact locF_ok (BD_ok E 600000 (TW E d) ih f) (DT_ok [] 100000 60 f) globLt (kn_right _ (look_mem hl))
  ·exact BD_ok E 600000 (TW E d) ih f
theorem DE15 (E : List (Nat × Blk)) (d : Nat) : TW E (d + 1) 15 = F15 E (TW E d) (drawW E (TW E d)) 600000 := by kernel_rfl
theorem DE20 (E : List (Nat × Blk)) (d : Nat) : TW E (d + 1) 20 = F20 E (TW E d) (drawW E (TW E d)) 600000 := by kernel_rfl
theorem DE21 (E : List (Nat × Blk)) (d : Nat) : TW E (d + 1) 21 = F21 E (TW E d) (drawW E (TW E d)) 600000 := by kernel_rfl
theorem DE22 (E : List (Nat × Blk)) (d : Nat) : TW E (d + 1) 22 = F22 E (TW E d) (drawW E (TW E d)) 600000 := by kernel_rfl
theorem DE23 (E : List (Nat × Blk)) (d : Nat) : TW E (d + 1) 23 = F23 E (TW E d) (drawW E (TW E d)) 600000 := by kernel_rfl
theorem DE32 (E : List (Nat × Blk)) (d : Nat) : TW E (d + 1) 32 = F32 E (TW E d) (drawW E (TW E d)) 600000 := by kernel_rfl
theorem DE36 (E : List (Nat × Blk)) (d : Nat) : TW E (d + 1) 36 = F36 E (TW E d) (drawW E (TW E d)) 600000 := by kernel_rfl
theorem DE38 (E : List (Nat × Blk)) (d : Nat) : TW E (d + 1) 38 = F38 E (TW E d) (drawW E (TW E d)) 600000 := by kernel_rfl
theorem DE39 (E : List (Nat × Blk)) (d : Nat) : TW E (d + 1) 39 = F39 E (TW E d) (drawW E (TW E d)) 600000 := by kernel_rfl
theorem DE40 (E : List (Nat × Blk)) (d : Nat) : TW E (d + 1) 40 = F40 E (TW E d) (drawW E (TW E d)) 600000 := by kernel_rfl
theorem DE41 (E : List (Nat × Blk)) (d : Nat) : TW E (d + 1) 41 = F41 E (TW E d) (drawW E (TW E d)) 600000 := by kernel_rfl
theorem DE42 (E : List (Nat × Blk)) (d : Nat) : TW E (d + 1) 42 = F42 E (TW E d) (drawW E (TW E d)) 600000 := by kernel_rfl
theorem DE43 (E : List (Nat × Blk)) (d : Nat) : TW E (d + 1) 43 = F43 E (TW E d) (drawW E (TW E d)) 600000 := by kernel_rfl
theorem DE44 (E : List (Nat × Blk)) (d : Nat) : TW E (d + 1) 44 = F44 E (TW E d) (drawW E (TW E d)) 600000 := by kernel_rfl
theorem DE45 (E : List (Nat × Blk)) (d : Nat) : TW E (d + 1) 45 = F45 E (TW E d) (drawW E (TW E d)) 600000 := by kernel_rfl
theorem DE50 (E : List (Nat × Blk)) (d : Nat) : TW E (d + 1) 50 = F50 E (TW E d) (drawW E (TW E d)) 600000 := by kernel_rfl
theorem DE51 (E : List (Nat × Blk)) (d : Nat) : TW E (d + 1) 51 = F51 E (TW E d) (drawW E (TW E d)) 600000 := by kernel_rfl
theorem DE52 (E : List (Nat × Blk)) (d : Nat) : TW E (d + 1) 52 = F52 E (TW E d) (drawW E (TW E d)) 600000 := by kernel_rfl
theorem DE65 (E : List (Nat × Blk)) (d : Nat) : TW E (d + 1) 65 = F65 E (TW E d) (drawW E (TW E d)) 600000 := by kernel_rfl
theorem DE66 (E : List (Nat × Blk)) (d : Nat) : TW E (d + 1) 66 = F66 E (TW E d) (drawW E (TW E d)) 600000 := by kernel_rfl
theorem DE69 (E : List (Nat × Blk)) (d : Nat) : TW E (d + 1) 69 = F69 E (TW E d) (drawW E (TW E d)) 600000 := by kernel_rfl
theorem DE74 (E : List (Nat × Blk)) (d : Nat) : TW E (d + 1) 74 = F74 E (TW E d) (drawW E (TW E d)) 600000 := by kernel_rfl
theorem DE75 (E : List (Nat × Blk)) (d : Nat) : TW E (d + 1) 75 = F75 E (TW E d) (drawW E (TW E d)) 600000 := by kernel_rfl
theorem DE77 (E : List (Nat × Blk)) (d : Nat) : TW E (d + 1) 77 = F77 E (TW E d) (drawW E (TW E d)) 600000 := by kernel_rfl
theorem DE78 (E : List (Nat × Blk)) (d : Nat) : TW E (d + 1) 78 = F78 E (TW E d) (drawW E (TW E d)) 600000 := by kernel_rfl
theorem DE85 (E : List (Nat × Blk)) (d : Nat) : TW E (d + 1) 85 = F85 E (TW E d) (drawW E (TW E d)) 600000 := by kernel_rfl
theorem DE86 (E : List (Nat × Blk)) (d : Nat) : TW E (d + 1) 86 = F86 E (TW E d) (drawW E (TW E d)) 600000 := by kernel_rfl
theorem DE87 (E : List (Nat × Blk)) (d : Nat) : TW E (d + 1) 87 = F87 E (TW E d) (drawW E (TW E d)) 600000 := by kernel_rfl
theorem DE99 (E : List (Nat × Blk)) (d : Nat) : TW E (d + 1) 99 = F99 E (TW E d) (drawW E (TW E d)) 600000 := by kernel_rfl
theorem DE100 (E : List (Nat × Blk)) (d : Nat) : TW E (d + 1) 100 = F100 E (TW E d) (drawW E (TW E d)) 600000 := by kernel_rfl
theorem DE101 (E : List (Nat × Blk)) (d : Nat) : TW E (d + 1) 101 = F101 E (TW E d) (drawW E (TW E d)) 600000 := by kernel_rfl
theorem DE102 (E : List (Nat × Blk)) (d : Nat) : TW E (d + 1) 102 = F102 E (TW E d) (drawW E (TW E d)) 600000 := by kernel_rfl
theorem DE103 (E : List (Nat × Blk)) (d : Nat) : TW E (d + 1) 103 = F103 E (TW E d) (drawW E (TW E d)) 600000 := by kernel_rfl
theorem DE106 (E : List (Nat × Blk)) (d : Nat) : TW E (d + 1) 106 = F106 E (TW E d) (drawW E (TW E d)) 600000 := by kernel_rfl
theorem DE107 (E : List (Nat × Blk)) (d : Nat) : TW E (d + 1) 107 = F107 E (TW E d) (drawW E (TW E d)) 600000 := by kernel_rfl
theorem DE109 (E : List (Nat × Blk)) (d : Nat) : TW E (d + 1) 109 = F109 E (TW E d) (drawW E (TW E d)) 600000 := by kernel_rfl
theorem DE110 (E : List (Nat × Blk)) (d : Nat) : TW E (d + 1) 110 = F110 E (TW E d) (drawW E (TW E d)) 600000 := by kernel_rfl
theorem DE114 (E : List (Nat × Blk)) (d : Nat) : TW E (d + 1) 114 = F114 E (TW E d) (drawW E (TW E d)) 600000 := by kernel_rfl
theorem DE115 (E : List (Nat × Blk)) (d : Nat) : TW E (d + 1) 115 = F115 E (TW E d) (drawW E (TW E d)) 600000 := by kernel_rfl
theorem DE116 (E : List (Nat × Blk)) (d : Nat) : TW E (d + 1) 116 = F116 E (TW E d) (drawW E (TW E d)) 600000 := by kernel_rfl
theorem DE131 (E : List (Nat × Blk)) (d : Nat) : TW E (d + 1) 131 = F131 E (TW E d) (drawW E (TW E d)) 600000 := by kernel_rfl
theorem DE132 (E : List (Nat × Blk)) (d : Nat) : TW E (d + 1) 132 = F132 E (TW E d) (drawW E (TW E d)) 600000 := by kernel_rfl
theorem DE134 (E : List (Nat × Blk)) (d : Nat) : TW E (d + 1) 134 = F134 E (TW E d) (drawW E (TW E d)) 600000 := by kernel_rfl
theorem DE138 (E : List (Nat × Blk)) (d : Nat) : TW E (d + 1) 138 = F138 E (TW E d) (drawW E (TW E d)) 600000 := by kernel_rfl
theorem DE139 (E : List (Nat × Blk)) (d : Nat) : TW E (d + 1) 139 = F139 E (TW E d) (drawW E (TW E d)) 600000 := by kernel_rfl
theorem DE147 (E : List (Nat × Blk)) (d : Nat) : TW E (d + 1) 147 = F147 E (TW E d) (drawW E (TW E d)) 600000 := by kernel_rfl
theorem DE148 (E : List (Nat × Blk)) (d : Nat) : TW E (d + 1) 148 = F148 E (TW E d) (drawW E (TW E d)) 600000 := by kernel_rfl
theorem DE149 (E : List (Nat × Blk)) (d : Nat) : TW E (d + 1) 149 = F149 E (TW E d) (drawW E (TW E d)) 600000 := by kernel_rfl
theorem DE151 (E : List (Nat × Blk)) (d : Nat) : TW E (d + 1) 151 = F151 E (TW E d) (drawW E (TW E d)) 600000 := by kernel_rfl
theorem DE162 (E : List (Nat × Blk)) (d : Nat) : TW E (d + 1) 162 = F162 E (TW E d) (drawW E (TW E d)) 600000 := by kernel_rfl
theorem DE163 (E : List (Nat × Blk)) (d : Nat) : TW E (d + 1) 163 = F163 E (TW E d) (drawW E (TW E d)) 600000 := by kernel_rfl
theorem DE182 (E : List (Nat × Blk)) (d : Nat) : TW E (d + 1) 182 = F182 E (TW E d) (drawW E (TW E d)) 600000 := by kernel_rfl
theorem DE183 (E : List (Nat × Blk)) (d : Nat) : TW E (d + 1) 183 = F183 E (TW E d) (drawW E (TW E d)) 600000 := by kernel_rfl
theorem DE189 (E : List (Nat × Blk)) (d : Nat) : TW E (d + 1) 189 = F189 E (TW E d) (drawW E (TW E d)) 600000 := by kernel_rfl
theorem DE190 (E : List (Nat × Blk)) (d : Nat) : TW E (d + 1) 190 = F190 E (TW E d) (drawW E (TW E d)) 600000 := by kernel_rfl
theorem DE191 (E : List (Nat × Blk)) (d : Nat) : TW E (d + 1) 191 = F191 E (TW E d) (drawW E (TW E d)) 600000 := by kernel_rfl
theorem DE201 (E : List (Nat × Blk)) (d : Nat) : TW E (d + 1) 201 = F201 E (TW E d) (drawW E (TW E d)) 600000 := by kernel_rfl
theorem DE202 (E : List (Nat × Blk)) (d : Nat) : TW E (d + 1) 202 = F202 E (TW E d) (drawW E (TW E d)) 600000 := by kernel_rfl
theorem DE203 (E : List (Nat × Blk)) (d : Nat) : TW E (d + 1) 203 = F203 E (TW E d) (drawW E (TW E d)) 600000 := by kernel_rfl
theorem DE204 (E : List (Nat × Blk)) (d : Nat) : TW E (d + 1) 204 = F204 E (TW E d) (drawW E (TW E d)) 600000 := by kernel_rfl
theorem DE234 (E : List (Nat × Blk)) (d : Nat) : TW E (d + 1) 234 = F234 E (TW E d) (drawW E (TW E d)) 600000 := by kernel_rfl
theorem DE244 (E : List (Nat × Blk)) (d : Nat) : TW E (d + 1) 244 = F244 E (TW E d) (drawW E (TW E d)) 600000 := by kernel_rfl
theorem DE260 (E : List (Nat × Blk)) (d : Nat) : TW E (d + 1) 260 = F260 E (TW E d) (drawW E (TW E d)) 600000 := by kernel_rfl
theorem DE261 (E : List (Nat × Blk)) (d : Nat) : TW E (d + 1) 261 = F261 E (TW E d) (drawW E (TW E d)) 600000 := by kernel_rfl
theorem DE262 (E : List (Nat × Blk)) (d : Nat) : TW E (d + 1) 262 = F262 E (TW E d) (drawW E (TW E d)) 600000 := by kernel_rfl
theorem DE268 (E : List (Nat × Blk)) (d : Nat) : TW E (d + 1) 268 = F268 E (TW E d) (drawW E (TW E d)) 600000 := by kernel_rfl
theorem DE273 (E : List (Nat × Blk)) (d : Nat) : TW E (d + 1) 273 = F273 E (TW E d) (drawW E (TW E d)) 600000 := by kernel_rfl
theorem DE289 (E : List (Nat × Blk)) (d : Nat) : TW E (d + 1) 289 = F289 E (TW E d) (drawW E (TW E d)) 600000 := by kernel_rfl
theorem DE297 (E : List (Nat × Blk)) (d : Nat) : TW E (d + 1) 297 = F297 E (TW E d) (drawW E (TW E d)) 600000 := by kernel_rfl
theorem DE13 (E : List (Nat × Blk)) (d : Nat) : TW E (d + 1) 13 = locF [eT] (BD E 600000 (TW E d) 13) := by kernel_rfl
theorem DE31 (E : List (Nat × Blk)) (d : Nat) : TW E (d + 1) 31 = locF [eAw] (BD E 600000 (TW E d) 31) := by kernel_rfl
theorem DE49 (E : List (Nat × Blk)) (d : Nat) : TW E (d + 1) 49 = locF [eMade] (BD E 600000 (TW E d) 49) := by kernel_rfl
theorem DE37 (E : List (Nat × Blk)) (d : Nat) : TW E (d + 1) 37 = locF [eRo] (BD E 600000 (TW E d) 37) := by kernel_rfl
theorem DE150 (E : List (Nat × Blk)) (d : Nat) : TW E (d + 1) 150 = locF [eFx] (BD E 600000 (TW E d) 150) := by kernel_rfl
end
noncomputable section
theorem hit1 {e : Few} {F : List V → H → Ans} {args : List V} {σ : H} {ρ : Nat → Nat} (hm : e.Fits ρ args σ) : ∃ ρ', e.Fits ρ' args σ ∧ locF [e] F args σ = some (e.ans ρ' σ) := by
 obtain ⟨e', ρ', he, hf, hr⟩ := locF_hit (F := F) (l := [e]) (List.mem_singleton.2 rfl) hm
 have := List.mem_singleton.1 he
 subst this
 exact ⟨ρ', hf, hr⟩
theorem Has.nil {ρ : Nat → Nat} {σ : H} : Has [] ρ σ := fun id b h => by cases h
theorem Inj.nil {ρ : Nat → Nat} : Inj [] ρ := fun id id' h => by cases h
variable {E : List (Nat × Blk)}
variable {E : List (Nat × Blk)}
theorem xBit (d : Nat) : SpBit (TW E (d + 1) 41) := by rw [DE41]; exact r01bit_F
theorem xBits (d : Nat) : SpBits (TW E (d + 2) 20) := by rw [DE20]; exact bits_F (xBit d) (by decide)
theorem xB32 (d : Nat) : SpBits32 (TW E (d + 1) 163) := by rw [DE163]; exact bits32_F (by decide)
theorem xOcts (d : Nat) : SpOcts E (TW E (d + 2) 87) := by rw [DE87]; exact octs_F (xB32 d) (by decide)
theorem xOct1 (d : Nat) : SpOct1 E (TW E (d + 3) 44) := by rw [DE44]; exact oct1_F (xOcts d)
theorem xCutL (d : Nat) : SpCutL (TW E (d + 1) 42) := by rw [DE42]; exact cutL_F (by decide)
theorem xDetB (d : Nat) : SpDetB (TW E (d + 3) 43) := by rw [DE43]; exact detB_F (xBits d)
theorem xPutB (d : Nat) {σ : H} {w b : Nat} {u : V} {L O : List Nat} (h : Wr σ w u L) (ht : Tidy σ) (hl : L.length < 1000000) (hO' : O.length < 69000) (hc : ∀ c ∈ O, c < 256) (ha : Atc σ b (u8s (nI O))) (ob : Off σ w u b) :
  ∃ u' σ', TW E (d + 4) 21 [.ptr w 0, .sl b 0 O.length (.ex O.length)] σ = some (.tup [], σ') ∧ Wst σ w u σ' u' (L ++ putB O) := by
 rw [DE21]; exact putB_F (xCutL (d + 2)) (xDetB d) (xOct1 d) (by decide) h ht hl hO' hc ha ob
theorem xBytes (d : Nat) : SpBytes 590000 (TW E (d + 1) 45) := by rw [DE45]; exact r01bytes_F (by decide) (by decide)
theorem xW17 (d : Nat) {σ : H} {w : Nat} {u : V} {L : List Nat} (h : Wr σ w u L) (ht : Tidy σ) (hb : Bin L) (hl : L.length ≤ 590000) (h0 : 0 < L.length) :
  ∃ v σ', TW E (d + 2) 23 [.ptr w 0] σ = some (v, σ') ∧ Nb σ σ' v (nI (pack L)) ∧ Fr Nowhere σ σ' := by
 rw [DE23]; exact r17bytes_F (xBytes d) h ht hb hl h0
theorem xPbit (d : Nat) : SpPbit (TW E (d + 1) 273) := by rw [DE273]; exact pbit_F
theorem xPbits (d : Nat) : SpPbits (TW E (d + 2) 204) := by rw [DE204]; exact pbits_F (xPbit d) (by decide)
theorem xLeft (d : Nat) : SpLeft (TW E (d + 1) 203) := by rw [DE203]; exact left_F
theorem xReady (d : Nat) : SpReady (TW E (d + 2) 261) := by rw [DE261]; exact ready_F (xLeft d)
theorem xBd32 (d : Nat) : SpBd 32 (TW E (d + 1) 260) := by rw [DE260]; exact bd32_F
theorem xRbits (d : Nat) : SpRbits (TW E (d + 3) 183) := by rw [DE183]; exact rbits_F (xBd32 (d + 1)) (xReady d) (xPbits d)
theorem xRerr (d : Nat) : SpRerr (TW E (d + 1) 201) := by rw [DE201]; exact rerr_F
theorem xErr (d : Nat) : SpErr (TW E (d + 2) 114) := by rw [DE114]; exact err_F (xRerr d)
theorem xRleft (d : Nat) : SpLeft (TW E (d + 2) 202) := by rw [DE202]; exact rleft_F (xLeft d)
theorem xWleft (d : Nat) : SpWleft (TW E (d + 3) 115) := by rw [DE115]; exact wleft_F (xRleft d)
theorem xBd64 (d : Nat) : SpBd 64 (TW E (d + 1) 182) := by rw [DE182]; exact bd64_F
theorem xWbits (d : Nat) : SpWbits (TW E (d + 4) 103) := by rw [DE103]; exact wbits_F (xBd64 (d + 2)) (xErr (d + 1)) (xWleft d) (xRbits d)
theorem xRocts (d : Nat) : SpRocts (TW E (d + 3) 191) := by rw [DE191]; exact rocts_F (xReady d) (xPbits d) (by decide)
theorem xWocts (d : Nat) : SpWocts (TW E (d + 4) 109) := by rw [DE109]; exact wocts_F (xErr (d + 1)) (xRocts d)
theorem xBack (d : Nat) : SpBack (TW E (d + 3) 262) (TW E (d + 2)) := by rw [DE262]; exact back_F (xErr d)
theorem xTakeqG (d : Nat) : SpTakeqG (TW E (d + 5) 297) := by rw [DE297]; exact takeqG_F (xWbits d)
theorem xTakeG (d : Nat) : SpTakeG (TW E (d + 7) 268) := by rw [DE268]; exact takeG_F (xBack (d + 3)) (xTakeqG d)
theorem xPieceG (d : Nat) : SpPieceG (TW E (d + 5) 190) := by rw [DE190]; exact pieceG_F (xWocts d)
theorem xTakeL (d : Nat) : SpTakeL (TW E (d + 9) 106) := by rw [DE106]; exact takeL_F (xTakeG d) (xErr (d + 5)) (xErr (d + 6)) (xPieceG (d + 2)) (by decide) (DE189 E (d + 7))
theorem xNewB (d : Nat) : SpNewB (TW E (d + 1) 99) := by rw [DE99]; exact newB_F
theorem xNewW (d : Nat) : SpNewW (TW E (d + 2) 50) := by rw [DE50]; exact newW_F (xNewB d)
theorem xRend (d : Nat) : SpRend (TW E (d + 3) 116) := by rw [DE116]; exact rend_F (xRerr (d + 1)) (xLeft (d + 1)) (xPbits d)
theorem xWend (d : Nat) : SpWend (TW E (d + 4) 52) := by rw [DE52]; exact wend_F (xErr (d + 1)) (xWleft d) (xRend d)
theorem xOn (d : Nat) : SpOn (TW E (d + 3) 102) := by rw [DE102]; exact on_F (xErr d)
theorem xBadNo (d : Nat) : SpBadNo (TW E (d + 1) 100) := by rw [DE100]; exact badno_F
theorem xMore (d : Nat) : SpMore (TW E (d + 1) 101) := by rw [DE101]; exact more_F
theorem xFix (d : Nat) : SpFix0 (TW E (d + 1) 150) := by
 intro σ ht
 obtain ⟨ρ, hf, hr⟩ := hit1 (e := eFx) (F := BD E 600000 (TW E d) 150) (fits_of (e := eFx) (ρ := fun x => x) (args := [.agg con0]) (σ := σ) rfl Has.nil Inj.nil)
 exact ⟨_, by rw [DE150, hr]; rfl, Few.fr0 eFx_shape (by kernel_rfl) hf ht⟩
theorem xIn0 (d : Nat) : SpIn0 (TW E (d + 1) 132) := by
 rw [DE132]
 intro σ n ht
 obtain ⟨σ', g, f⟩ := within_F (E := E) (D := TW E d) (W := drawW E (TW E d)) (N := 600000) ht false false false false (Int.ofNat 0) (Int.ofNat 0) n
 exact ⟨σ', g, f⟩
theorem xCutV (d : Nat) : SpCutV (TW E (d + 10) 110) := by rw [DE110]; exact cutV_F (xTakeL d)
theorem xUsize (d : Nat) : SpUsize (TW E (d + 11) 107) := by rw [DE107]; exact usize_F (xFix (d + 9)) (xIn0 (d + 9)) (xBadNo (d + 9)) (xCutV d)
theorem xWb (d : Nat) : SpWBit (TW E (d + 1) 289) := by rw [DE289]; exact wbit_F
theorem xBdd32 (d : Nat) : SpBdd 32 (TW E (d + 1) 260) := by rw [DE260]; exact bdd32_F
theorem xBdd64 (d : Nat) : SpBdd 64 (TW E (d + 1) 182) := by rw [DE182]; exact bdd64_F
theorem xPwb (d : Nat) : SpWBits (TW E (d + 2) 234) := by rw [DE234]; exact pwbits_F (xWb d) (xBdd32 d) (by decide)
theorem xWw (d : Nat) : SpWWBits (TW E (d + 3) 139) := by rw [DE139]; exact wwbits_F (xPwb d) (xBdd64 (d + 1))
theorem xLen (d : Nat) : SpWLen (TW E (d + 1) 162) := by rw [DE162]; exact pwlen_F
theorem xWLen (d : Nat) : SpWLen (TW E (d + 2) 85) := by rw [DE85]; exact wwlen_F (xLen d)
theorem xPB (d : Nat) : SpWBytes (TW E (d + 1) 86) := by rw [DE86]; exact pwbytes_F
theorem xWB (d : Nat) : SpWBytes (TW E (d + 3) 40) := by rw [DE40]; exact wwbytes_F (xWLen d) (xPB (d + 1))
theorem xPO (d : Nat) : SpWOct (TW E (d + 3) 151) := by rw [DE151]; exact pwoct_F (xPwb d) (by decide)
theorem xWO (d : Nat) : SpWOct1 (TW E (d + 4) 77) := by rw [DE77]; exact wwoct_F (xPO d)
theorem xJoin (d : Nat) : SpJoin1 (TW E (d + 1) 147) := by rw [DE147]; exact join1_F (by decide)
theorem xlcut (d : Nat) {σ : H} {n : Nat} (hn : n < 16384) : TW E (d + 1) 244 [.int .i64 (Int.ofNat n)] σ = some (.tup [.int .i64 (Int.ofNat n), .bool false], σ) := by rw [DE244]; exact lcut_F hn
theorem xPlain (d : Nat) : SpPlain (TW E (d + 1) 131) := by rw [DE131]; exact plain_F
theorem xlputX (d : Nat) : SpWputX (TW E (d + 4) 149) := by rw [DE149]; exact wputX_F (xWw d)
theorem xlCutsX (d : Nat) : SpCutL (TW E (d + 2) 148) := by rw [DE148]; exact lCutsX_F (fun σ n hn => xlcut d hn) (fun σ n h1 h2 => by rw [DE244]; exact lcutX_F h1 h2) (by decide)
theorem xPOE (d : Nat) (σ : H) (w p : Nat) (z : V) (hz : Emp z) (ap : Atc σ p [z]) : TW E (d + 1) 151 [.ptr w 0, .sl p 0 1 (.ex 1)] σ = some (.tup [], σ) := by rw [DE151]; exact pwoctE_F hz ap (by decide)
theorem xWOE (d : Nat) : SpWOctE (TW E (d + 2) 77) := by rw [DE77]; exact wwoctE_F (xPOE d)
theorem xlPutX (d : Nat) : SpLPutX (TW E (d + 5) 74) := by rw [DE74]; exact lPutX_F (xJoin (d + 3)) (xlCutsX (d + 2)) (xlputX d) (xWO d) (xWOE (d + 2)) (by decide)
theorem xE2 (d : Nat) : SpE2 (TW E (d + 6) 78) := by rw [DE78]; exact e2_F (xlPutX d)
theorem xES (d : Nat) : SpES (TW E (d + 7) 75) := by rw [DE75]; exact esize_F (xFix (d + 5)) (xIn0 (d + 5)) (xE2 d)
theorem xStr (d : Nat) : SpStr (TW E (d + 2) 134) := by rw [DE134]; exact string_F (xPlain d) (xIn0 d)
theorem xIx (d : Nat) : SpIx (TW E (d + 1) 138) (TW E d) := by rw [DE138]; exact fun ht hr hq hn => ixV_F ht hr hq (by omega) (by omega)
theorem xCf (d : Nat) : SpCf (TW E (d + 2) 69) (TW E d) := by rw [DE69]; exact cfV_F (xIx d)
theorem xCount0 (d : Nat) {σ : H} (ht : Tidy σ) (v : Vc) (hl : v.l = .nils) : ∃ σ', TW E (d + 1) 66 [.agg v.c] σ = some (.int .i64 (Int.ofNat 1), σ') ∧ Fr Nowhere σ σ' := by
 rw [DE66]; exact count_F (n := 0) (g := fun _ => v) (by omega) (by omega) ht ⟨.inl ⟨rfl, hl⟩⟩ (fun _ k hk => absurd hk (Nat.not_lt_zero _))
theorem xRules0 (d : Nat) {σ : H} (ht : Tidy σ) (v : Vc) (hl : v.l = .nils) (hr : v.r = Int.ofNat 0) (ru : Int) : ∃ σ', TW E (d + 3) 38 [.agg v.c, .int .i64 ru] σ = some (.bool true, σ') ∧ Fr Nowhere σ σ' := by
 rw [DE38]; exact rules_F (n := 0) (g := fun _ => v) (xCf d) (by omega) (by rw [hr]; rfl) ht ⟨.inl ⟨rfl, hl⟩⟩ (fun _ _ k hk => absurd hk (Nat.not_lt_zero _))
def Pt (τ : Nat → Nat) (σ : H) : Prop := Inj eT.bl1 τ ∧ Has eT.bl1 τ σ
section
variable {τ : Nat → Nat}
theorem pt_f (σ σ' : H) (ht : Tidy σ) (f : Fr Nowhere σ σ') (h : Pt τ σ) : Pt τ σ' := ⟨h.1, h.2.fr f ht fun _ _ h => h⟩
theorem pt_row {σ : H} (h : Pt τ σ) : Row σ 13 1 (.sl (τ 189) 0 1 (.op 13)) fun i => ((fun _ => tyO (τ 177) : Nat → Ty) i).c :=
 ⟨.inr ⟨τ 189, .op 13, tyo (τ 177), rfl, h.2 189 _ rfl, fun k hk => by
  obtain rfl : k = 0 := by omega
  exact ⟨Nat.le_refl 13, rfl⟩⟩⟩
theorem xMade (d : Nat) : SpMade (Pt τ) ⟨1, 77⟩ (.sl (τ 160) 0 1 (.op 1)) (.sl (τ 191) 0 1 (.op 1)) (τ 189) (TW E (d + 1) 49) := by
 intro σ ht hP
 obtain ⟨ρ, hf, hr⟩ := hit1 (e := eMade) (F := BD E 600000 (TW E d) 49) (fits_of (e := eMade) (ρ := τ) (args := [.agg [.str ⟨1, 77⟩, .sl (τ 160) 0 1 (.op 1), .sl (τ 191) 0 1 (.op 1), .sl (τ 189) 0 1 (.op 13)]]) rfl hP.2 hP.1)
 exact ⟨(eMade.ans ρ σ).2, by rw [DE49, hr]; rfl, Few.fr0 eMade_shape (by kernel_rfl) hf ht⟩
theorem xRo (d : Nat) : SpMade (Pt τ) ⟨1, 77⟩ (.sl (τ 160) 0 1 (.op 1)) (.sl (τ 191) 0 1 (.op 1)) (τ 189) (TW E (d + 1) 37) := by
 intro σ ht hP
 obtain ⟨ρ, hf, hr⟩ := hit1 (e := eRo) (F := BD E 600000 (TW E d) 37) (fits_of (e := eRo) (ρ := τ) (args := [.agg [.str ⟨1, 77⟩, .sl (τ 160) 0 1 (.op 1), .sl (τ 191) 0 1 (.op 1), .sl (τ 189) 0 1 (.op 13)]]) rfl hP.2 hP.1)
 exact ⟨(eRo.ans ρ σ).2, by rw [DE37, hr]; rfl, Few.fr0 eRo_shape (by kernel_rfl) hf ht⟩
theorem xFitO (d : Nat) : SpFitO (Pt τ) ⟨1, 77⟩ (.sl (τ 160) 0 1 (.op 1)) (.sl (τ 191) 0 1 (.op 1)) (τ 189) (TW E (d + 4) 36) := by
 intro σ u l ht hP hu hl
 have uo : u.one = true := Src.one hu
 have lu : Len u l.length := ⟨uo, fun κ => by rw [hu.slen, nI_length]⟩
 rw [DE36]
 exact Fits_F (v := Vc.oct u uo) (n := 1) (ty := fun _ => tyO (τ 177)) (by decide) ht (pt_row hP) rfl rfl rfl
  (fun σ1 p h1 _ hc => by rw [DE65]; exact fitsOct_F (xStr d) h1 hc (by decide) (by decide) rfl lu (by omega))
  (fun σ1 h1 _ => xCount0 (d + 2) h1 (Vc.oct u uo) rfl)
theorem xEncO (d : Nat) : SpEncO (Pt τ) ⟨1, 77⟩ (.sl (τ 160) 0 1 (.op 1)) (.sl (τ 191) 0 1 (.op 1)) (τ 189) (TW E (d + 9) 15) := by
 intro σ u l ht hP hu hb hl
 have uo : u.one = true := Src.one hu
 rw [DE15]
 exact encX_F (v := Vc.oct u uo) ht rfl rfl rfl (fun σ1 h1 f => xFitO (d + 4) σ1 u l h1 (pt_f _ _ ht f hP) (Src.fr hu f ht (fun _ _ h => h)) hl)
  (fun σ1 h1 f => xRo (d + 7) σ1 h1 (pt_f _ _ ht f hP)) (fun σ1 h1 f => xRules0 (d + 5) h1 (Vc.oct u uo) rfl rfl (Int.ofNat 2))
  (fun σ0 σ1 eb w h0 f k => by
   rw [DE39]
   obtain ⟨X, u', σ', hX, g, s⟩ := voct_e (E := E) (D := TW E (d + 7)) (W := drawW E (TW E (d + 7))) (N := 600000) (ty := fun _ => tyO (τ 177)) (t0 := τ 177) (nT := 1) (i := 0) (xES d) (by decide) rfl h0 ⟨pt_row (pt_f _ _ ht f hP), rfl, rfl, rfl⟩ k (Src.fr hu f ht (fun _ _ h => h)) hb hl
   exact ⟨X, u', σ', ⟨hX.1, by omega⟩, g, s⟩) (xWB (d + 5))
theorem xUval (d : Nat) : SpUval ⟨1, 77⟩ (.sl (τ 160) 0 1 (.op 1)) (.sl (τ 191) 0 1 (.op 1)) (τ 189) (TW E (d + 12) 51) := by
 intro σ db wb rb cb t0 i j v O l em n ht hw h hn hp hj hl hT nc tc
 rw [DE51]
 exact voct_F (xMore (d + 10)) (xBadNo (d + 10)) (xOn (d + 8)) (xUsize d) ht hw h hn hp hj hl hT nc tc
theorem xDecO (d : Nat) : SpDecO (Pt τ) ⟨1, 77⟩ (.sl (τ 160) 0 1 (.op 1)) (.sl (τ 191) 0 1 (.op 1)) (τ 189) (TW E (d + 13) 32) := by
 rw [DE32]; exact decO_F pt_f rfl rfl (beq_self _ rfl) (beq_self _ rfl) (xMade (d + 11)) (xNewW (d + 10)) (xUval d) (xWend (d + 8)) (xFitO (d + 8)) (xEncO (d + 3))
end
theorem xAw (d : Nat) {σ : H} (ht : Tidy σ) : ∃ σ', TW E (d + 1) 31 [] σ = some (.bool true, σ') ∧ Fr Nowhere σ σ' := by
 obtain ⟨ρ, hf, hr⟩ := hit1 (e := eAw) (F := BD E 600000 (TW E d) 31) (fits_of (e := eAw) (ρ := fun x => x) (args := []) (σ := σ) rfl Has.nil Inj.nil)
 exact ⟨_, by rw [DE31, hr]; rfl, Few.fr0 eAw_shape (by kernel_rfl) hf ht⟩
theorem xTab (d : Nat) {σ : H} (ht : Tidy σ) : ∃ τ σ', TW E (d + 1) 13 [.str t0] σ = some (.tup [.agg [.str ⟨1, 77⟩, .sl (τ 160) 0 1 (.op 1), .sl (τ 191) 0 1 (.op 1), .sl (τ 189) 0 1 (.op 13)], .bool true], σ') ∧ Pt τ σ' ∧ Fr Nowhere σ σ' := by
 obtain ⟨ρ, hf, hr⟩ := hit1 (e := eT) (F := BD E 600000 (TW E d) 13) (fits_of (e := eT) (ρ := fun x => x) (args := [.str t0]) (σ := σ) rfl Has.nil Inj.nil)
 exact ⟨eT.to ρ σ, _, by rw [DE13, hr]; rfl, ⟨Few.to_inj eT_shape hf ht, Few.has eT_shape hf ht⟩, Few.fr0 eT_shape (by kernel_rfl) hf ht⟩
end
noncomputable section
theorem wrap_u64 (a : Int) : ∃ m : Nat, wrapF .u64 a = Int.ofNat m := by
 rw [wrapF_eq .u64]
 have : 0 ≤ IntKind.wrap .u64 a := by
  unfold IntKind.wrap; simp only [IntKind.signed, IntKind.bits]; simp; omega
 exact ⟨_, (Int.toNat_of_nonneg this).symm⟩
theorem wrap_u8 (a : Int) : ∃ m : Nat, m < 256 ∧ wrapF .u8 a = Int.ofNat m := by
 rw [wrapF_eq .u8]
 have : 0 ≤ IntKind.wrap .u8 a ∧ IntKind.wrap .u8 a < 256 := by
  unfold IntKind.wrap; simp only [IntKind.signed, IntKind.bits]; simp; omega
 exact ⟨_, by omega, (Int.toNat_of_nonneg this.1).symm⟩
theorem rem_n (a : Int) : ∃ n : Nat, n < 69000 ∧ wrapF .i64 (Int.tmod (wrapF .u64 a) (Int.ofNat 69000)) = Int.ofNat n := by
 obtain ⟨m, hm⟩ := wrap_u64 a
 rw [hm]
 have h2 : Int.tmod (Int.ofNat m) (Int.ofNat 69000) = Int.ofNat (m % 69000) := rfl
 have h3 : m % 69000 < 69000 := Nat.mod_lt _ (by decide)
 rw [h2]
 exact ⟨m % 69000, h3, wrapF_nat (k := .i64) (show m % 69000 ≤ 9223372036854775807 by omega)⟩
theorem zeros (n : Nat) : (List.replicate n [V.int .u8 (Int.ofNat 0)]).flatten = u8s (nI (List.replicate n 0)) := by
 induction n with
 | zero => rfl
 | succ n ih => rw [List.replicate_succ, List.flatten_cons, ih, List.replicate_succ]; rfl
theorem fill {D : Den} {W : DrawFn} {N n q : Nat} {s : Int} (K : V → H → Ans) : ∀ (m i k : Nat) (P : List Nat) (σ : H), i + m = n → m < k → n < 69000 → P.length = n → (∀ c ∈ P, c < 256) → Tidy σ → Atc σ q (u8s (nI P)) →
  ∃ O σ', (Nat.rec (fun _ _ _ _ _ => none) (fun _ ih => T10_2 [] D W K ih) k : Int → V → Int → Int → H → Ans) s (.sl q 0 n (.ex n)) (Int.ofNat n) (Int.ofNat i) σ = K (.sl q 0 n (.ex n)) σ' ∧ O.length = n ∧ (∀ c ∈ O, c < 256) ∧ Atc σ' q (u8s (nI O)) ∧ Fr (fun b => b = q) σ σ' := by
 intro m
 induction m with
 | zero =>
  intro i k P σ hi hk hn hP hc ht ha
  obtain ⟨k, rfl⟩ : ∃ j, k = j + 1 := ⟨k - 1, by omega⟩
  refine ⟨P, σ, ?_, hP, hc, ha, Fr.refl ht⟩
  show T10_2 [] D W K _ s (.sl q 0 n (.ex n)) (Int.ofNat n) (Int.ofNat i) σ = _
  have d : decide (i < n) = false := decide_eq_false (by omega)
  have key : ∀ R, T10_2 [] D W K R s (.sl q 0 n (.ex n)) (Int.ofNat n) (Int.ofNat i) σ = K (.sl q 0 n (.ex n)) σ := by
   intro R
   unfold T10_2
   simp -implicitDefEqProofs only [↓rP, rS, rQ, decide_false, decide_true, Nat.reduceEqDiff, Nat.reduceLT, Nat.reduceLeDiff, d]
  exact key _
 | succ m ih =>
  intro i k P σ hi hk hn hP hc ht ha
  obtain ⟨k, rfl⟩ : ∃ j, k = j + 1 := ⟨k - 1, by omega⟩
  obtain ⟨c, hc', ec⟩ := wrap_u8 (s + wrapF .u8 (Int.tmod (Int.ofNat i) (Int.ofNat 7)))
  have es : addF .u8 s (wrapF .u8 (Int.tmod (Int.ofNat i) (Int.ofNat 7))) = Int.ofNat c := ec
  have hlt : i < P.length := by omega
  have hP' : P = P.take i ++ P[i] :: P.drop (i + 1) := by rw [← List.drop_eq_getElem_cons hlt, List.take_append_drop]
  have lt : (nI (P.take i)).length = i := by rw [nI_length, List.length_take]; omega
  have hsplit : nI P = nI (P.take i) ++ Int.ofNat P[i] :: nI (P.drop (i + 1)) := by
   conv => lhs; rw [hP']
   rw [nI_app]; rfl
  have hd : Dst σ 1 (nI P).length (.sl q 0 n (.ex n)) (u8s (nI P)) := .inr ⟨q, by rw [nI_length, hP], ha, by rw [u8s_length, Nat.mul_one]⟩
  rw [hsplit] at hd
  obtain ⟨b, σ1, nb, g1, _, g2, d1, f1⟩ := dst_set (E := []) hd ht (Int.ofNat c)
  have nb : b = q := nb
  subst nb
  rw [lt] at g1 g2
  have e1 : nI (P.take i) ++ Int.ofNat c :: nI (P.drop (i + 1)) = nI (P.take i ++ c :: P.drop (i + 1)) := by rw [nI_app]; rfl
  rw [e1] at d1
  have hl1 : (P.take i ++ c :: P.drop (i + 1)).length = n := by simp only [List.length_append, List.length_take, List.length_cons, List.length_drop]; omega
  have a1 : Atc σ1 b (u8s (nI (P.take i ++ c :: P.drop (i + 1)))) := by
   rcases d1 with (⟨_, h, _⟩ | ⟨_, h, _⟩) | ⟨b', h, ha', _⟩
   ·cases h
   ·cases h
   ·cases h; exact ha'
  obtain ⟨O, σ2, g3, h1, h2, h3, f2⟩ := ih (i + 1) k (P.take i ++ c :: P.drop (i + 1)) σ1 (by omega) (by omega) hn hl1 (fun x hx => by
   rcases List.mem_append.1 hx with h | h
   ·exact hc x (List.mem_of_mem_take h)
   ·rcases List.mem_cons.1 h with h | h
    ·omega
    ·exact hc x (List.mem_of_mem_drop h)) f1.tidy a1
  refine ⟨O, σ2, ?_, h1, h2, h3, f1.trans f2 (fun _ _ h => h)⟩
  have d : decide (i < n) = true := decide_eq_true (by omega)
  have key : ∀ R, T10_2 [] D W K R s (.sl b 0 n (.ex n)) (Int.ofNat n) (Int.ofNat i) σ = R s (.sl b 0 n (.ex n)) (Int.ofNat n) (Int.ofNat (i + 1)) σ1 := by
   intro R
   unfold T10_2
   simp -implicitDefEqProofs only [↓rP, rS, rQ, decide_false, decide_true, Nat.reduceEqDiff, Nat.reduceLT, Nat.reduceLeDiff, d, ↓g1, es, ↓g2, addF_nat (show i + 1 ≤ 9223372036854775807 by omega)]
  exact (key _).trans g3
theorem ul_r0 {τ : Nat → Nat} {σ : H} {x : V} {tbl w : Nat} {u : V} {O : List Nat} (ht : Tidy σ) (hP : Pt τ σ) (hO : O.length < 69000) (hc : ∀ c ∈ O, c < 256) (xo : x.one = true)
  (at' : Atc σ tbl [.str ⟨1, 77⟩, .sl (τ 160) 0 1 (.op 1), .sl (τ 191) 0 1 (.op 1), .sl (τ 189) 0 1 (.op 13)]) (hw : Wr σ w u (putB O)) :
  ∃ env b6 v σ', drawW [] (TW [] 60) G10_0 H10_0 [(5, x), (7, .ptr tbl 0), (8, .bool true), (9, .ptr w 0)] σ = some (env, σ') ∧
   Go.Og.look env 5 = some x ∧ Go.Og.look env 8 = some (.bool true) ∧ Go.Og.look env 10 = some (.ptr b6 0) ∧ Go.Og.look env 11 = some (.int .i64 (Int.ofNat 0)) ∧ Atc σ' b6 (vo v) ∧ By σ' v (nI O) ∧ Fr Nowhere σ σ' := by
 have fw : Fr Nowhere σ ⟨σ.next + 10, σ.bl⟩ := (go_start (E := []) (n := 10) (S := Nowhere) ht).fr
 obtain ⟨l0, l1⟩ := putB_len hO
 obtain ⟨v, σ1, g1, n1, f1⟩ := xW17 (E := []) 58 (hw.fr fw ht) fw.tidy (putB_bin O) (by omega) l0
 have hP1 := pt_f _ _ fw.tidy f1 (pt_f _ _ ht fw hP)
 have lp : (pack (putB O)).length = packN (putB O).length := pack_length _
 have l8 := putB_8 O
 have lp8 : 8 * (pack (putB O)).length = (putB O).length := by rw [lp]; unfold packN; omega
 have hp : PutR (bitsO (pack (putB O))) 0 O (8 * (pack (putB O)).length) := by rw [lp8, bits_pack (putB_bin O) l8]; exact put_read hO hc
 obtain ⟨r, σ2, g2, n2, f2⟩ := xDecO (E := []) 47 σ1 (τ 177) v (pack (putB O)) O f1.tidy hP1 n1.by_ (pack_lt (putB_bin O)) (by omega) (by omega) (hP1.2 189 _ rfl) hp hc hO
 have le1 : σ.next + 10 ≤ σ1.next := f1.le
 have le2 := f2.le
 have ro := n2.1.one
 obtain ⟨σa, ha⟩ : ∃ σa, σa = (⟨σ2.next, (σ.next + 7, .cells vz) :: σ2.bl⟩ : H) := ⟨_, rfl⟩
 have f02 : Fr Nowhere ⟨σ.next + 10, σ.bl⟩ σ2 := f1.trans f2 (fun _ _ h => h)
 have ta : Tidy σa := by
  rw [ha]
  intro b hb
  have hb : σ2.next ≤ b := hb
  show lookF ((σ.next + 7, _) :: σ2.bl) b = none
  rw [lookF_cons, if_neg (by simp only []; omega)]
  exact f2.tidy b hb
 have a7 : Atc σa (σ.next + 7) vz := by
  rw [ha]
  show lookF ((σ.next + 7, _) :: σ2.bl) _ = _
  rw [lookF_cons, if_pos rfl]
 have fa : Fr (fun b => b = σ.next + 7) σ2 σa := by
  refine ⟨ta, by rw [ha]; exact Nat.le_refl _, fun b hb hn => ?_⟩
  rw [ha]
  show lookF ((σ.next + 7, _) :: σ2.bl) b = _
  rw [lookF_cons, if_neg (fun e => hn e.symm)]
 have ho : allOne (vo r) = true := by unfold vo; simp only [allOne_cons, allOne_nil, one_int, one_nils, ro, Bool.and_true]
 obtain ⟨σb, g, f, ab⟩ := st_den (E := []) (D := TW [] 60) (n := 6) (cs := vo r) (x := .tmp 10) (y := .tmp 46) (e := [(10, .ptr (σ.next + 7) 0), (46, .agg (vo r))]) ta a7 rfl rfl (by rw [ho]; rfl)
 have vl : v.live = true := live_of n1.1.one
 have nr : ∀ b, Names r b → σ.next + 10 ≤ b := fun b hb => by have := n2.2 b hb; omega
 have rb : By σb r (nI O) := Src.fr (Src.fr n2.by_ fa f2.tidy (fun b hb e => by have := nr b hb; omega)) f ta (fun b hb e => by have := nr b hb; omega)
 have go : Goes [] (TW [] 60) σ 10 0 Nowhere G10_0 H10_0 ⟨[(5, x), (7, .ptr tbl 0), (8, .bool true), (9, .ptr w 0)], σ.next + 10, [σ.bl], [], 0, []⟩ _ σb :=
  go_l (.agg [.str ⟨1, 77⟩, .sl (τ 160) 0 1 (.op 1), .sl (τ 191) 0 1 (.op 1), .sl (τ 189) 0 1 (.op 13)]) (go_start ht) rfl (old_ldn (b := tbl) (off := 0) (m := 4) rfl at' rfl rfl ht (fun h => h) (beq_self _ rfl)) fun _ r1 =>
  go_p (.ptr w 0) rfl rfl <|
  go_k v r1 rfl (by decide) (S' := Nowhere) f1 (fun _ _ h => h.elim) (fun _ h _ _ => h) (call_of (vs := [.ptr w 0]) rfl rfl g1) fun _ _ _ r2 =>
  go_k (.tup [.agg (vo r), .int .i64 (Int.ofNat 0)]) r2 rfl (by decide) (S' := Nowhere) f2 (fun _ _ h => h.elim) (fun _ h _ _ => h) (call_of (vs := [.agg [.str ⟨1, 77⟩, .sl (τ 160) 0 1 (.op 1), .sl (τ 191) 0 1 (.op 1), .sl (τ 189) 0 1 (.op 13)], .int .i64 (Int.ofNat 0), v]) rfl (by
   show (true && (true && (v.live && true))) = true
   rw [vl]; rfl) g2) fun _ _ _ r3 =>
  go_p (.tup [.agg (vo r), .int .i64 (Int.ofNat 0)]) rfl rfl <|
  go_p (.agg (vo r)) rfl rfl <|
  go_p (.int .i64 (Int.ofNat 0)) rfl rfl <|
  go_a (.ptr (σ.next + 7) 0) (.cells vz) 128 r3 rfl (by decide) (by decide) rfl fun _ r4 =>
  go_kn .dead (by rw [← ha] at r4; exact r4) rfl (by decide) (S' := fun b => b = σ.next + 7) f (fun b h e => by omega) (fun b e h1 _ => by rw [e, Nat.add_sub_cancel_left]; decide) g fun _ _ _ r5 =>
  go_p (.int .i64 (Int.ofNat 0)) rfl rfl <|
  go_nil r5
 obtain ⟨d1, d2⟩ := go_draw (ops := G10_0) go
 exact ⟨_, _, r, σb, d1, rfl, rfl, rfl, rfl, ab, rb, d2⟩
theorem hbytes_F {D : Den} {W : DrawFn} {N : Nat} {σ : H} {x y : V} {l : List Int} (hx : By σ x l) (hy : By σ y l) : F22 [] D W N [x, y] σ = some (.bool true, σ) := by
 show T22_0 [] D W x y σ = _
 unfold T22_0
 rw [hx.str, hy.str, BS.beq_nats, decide_eq_true rfl]
theorem ul_law (a s : Int) : okB (F10 [] (TW [] 60) (drawW [] (TW [] 60)) 600000 [.int .i64 a, .int .u8 s] ⟨100, []⟩) = true := by
 obtain ⟨n, hn, en⟩ := rem_n a
 have ht : Tidy ⟨100, []⟩ := fun _ _ => rfl
 obtain ⟨σ1, e1, f1, a1, n1⟩ := mk_new ht (u8s (nI (List.replicate n 0)))
 have a1 : Atc σ1 100 (u8s (nI (List.replicate n 0))) := a1
 obtain ⟨O, σ2, g2, hO, hc, a2, f2⟩ := fill (D := TW [] 60) (W := drawW [] (TW [] 60)) (N := 600000) (s := s) (J10_1 [] (TW [] 60) (drawW [] (TW [] 60)) 600000) n 0 600000 (List.replicate n 0) σ1 (by omega) (by omega) hn (by simp) (fun c h => by rw [(List.mem_replicate.1 h).2]; decide) f1.tidy a1
 subst hO
 have f02 : Fr Nowhere ⟨100, []⟩ σ2 := f1.trans f2 (fun b hb e => by
  have hb : b < 100 := hb
  have e : b = 100 := e
  omega)
 have lq : 100 < σ2.next := a2.lt f2.tidy
 obtain ⟨τ, σ3, g3, P3, f3⟩ := xTab (E := []) 59 f2.tidy
 obtain ⟨σ4, e4, f4, a4, n4⟩ := mk_new f3.tidy [.str ⟨0, 0⟩, .nils, .nils, .nils]
 obtain ⟨σ5, e5, f5, a5⟩ := mk_set f4.tidy a4 [.str ⟨1, 77⟩, .sl (τ 160) 0 1 (.op 1), .sl (τ 191) 0 1 (.op 1), .sl (τ 189) 0 1 (.op 13)]
 have f35 : Fr Nowhere σ3 σ5 := f4.trans f5 (fun b hb e => by omega)
 obtain ⟨σ6, e6, f6, a6, n6⟩ := mk_new f5.tidy [.nils]
 have le3 := f3.le
 have le5 := f35.le
 have t5 := a5.lt f5.tidy
 have le53 : σ3.next ≤ σ5.next := le5
 have le32 : σ2.next ≤ σ3.next := le3
 have w6 : Wr σ6 σ5.next .nils [] := ⟨a6, Dst.nil _ _, fun h => h⟩
 have f36 := f35.trans f6 (fun _ _ h => h)
 have f26 := f3.trans f36 (fun _ _ h => h)
 have x6 := f26.at_ a2 f2.tidy (fun h => h)
 obtain ⟨u7, σ7, g7, s7⟩ := xPutB (E := []) 56 w6 f6.tidy (by decide) hn hc x6 ⟨by omega, by omega, fun h => h⟩
 rw [List.nil_append] at s7
 have tb6 : Off σ6 σ5.next .nils σ3.next := ⟨by omega, by omega, fun h => h⟩
 have t7 := s7.at_ f6.tidy tb6 (f6.at_ a5 f5.tidy (fun h => h))
 have P6 := pt_f _ _ f3.tidy f36 P3
 have P7 : Pt τ σ7 := ⟨P6.1, P6.2.fr s7.f f6.tidy fun id hd h => by
  have := P3.2.lt f3.tidy hd
  rcases h with h | h
  ·have h : τ id = σ5.next := h
   omega
  ·exact h⟩
 have xo : (V.sl 100 0 O.length (.ex O.length)).one = true := rfl
 obtain ⟨env, b6, v, σ8, g8, v5, v8, v10, v11, a8, b8, f8⟩ := ul_r0 (x := .sl 100 0 O.length (.ex O.length)) s7.f.tidy P7 hn hc xo t7 s7.wr
 obtain ⟨σ9, g9, f9⟩ := xAw (E := []) 59 f8.tidy
 have a9 := f9.at_ a8 f8.tidy (fun h => h)
 have b9 : By σ9 v (nI O) := Src.fr b8 f9 f8.tidy (fun _ _ h => h)
 have q7 := s7.at_ f6.tidy ⟨by omega, by omega, fun h => h⟩ x6
 have q9 := f9.at_ (f8.at_ q7 s7.f.tidy (fun h => h)) f8.tidy (fun h => h)
 have y9 : By σ9 (.sl 100 0 O.length (.ex O.length)) (nI O) := by
  unfold By
  rw [nI_length]
  exact .inr ⟨100, 0, _, _, rfl, q9, by rw [u8s_length, nI_length]; omega, by rw [List.drop_zero, Nat.mul_one, List.take_of_length_le (by rw [u8s_length, nI_length]; exact Nat.le_refl _)]⟩
 have g10 : TW [] 60 22 [v, .sl 100 0 O.length (.ex O.length)] σ9 = some (.bool true, σ9) := by
  rw [show (60 : Nat) = 59 + 1 from rfl, DE22]; exact hbytes_F b9 y9
 have key : F10 [] (TW [] 60) (drawW [] (TW [] 60)) 600000 [.int .i64 a, .int .u8 s] ⟨100, []⟩ = some (.bool true, σ9) := by
  have s5 : ∀ κ : H → Ans, stK 4 σ3.next 0 (.agg [.str ⟨1, 77⟩, .sl (τ 160) 0 1 (.op 1), .sl (τ 191) 0 1 (.op 1), .sl (τ 189) 0 1 (.op 13)]) σ4 κ = κ σ5 := fun κ => by
   rw [stK_at a4 rfl]
   show κ (setF σ4 σ3.next (.cells _)) = _
   rw [show spl [V.str ⟨0, 0⟩, .nils, .nils, .nils] 0 (V.agg [.str ⟨1, 77⟩, .sl (τ 160) 0 1 (.op 1), .sl (τ 191) 0 1 (.op 1), .sl (τ 189) 0 1 (.op 13)]).cells = [.str ⟨1, 77⟩, .sl (τ 160) 0 1 (.op 1), .sl (τ 191) 0 1 (.op 1), .sl (τ 189) 0 1 (.op 13)] from rfl, e5]
  have gd : ∀ κ : Env → H → Ans, gdrawK (drawW [] (TW [] 60) G10_0 H10_0 [(5, .sl 100 0 O.length (.ex O.length)), (7, .ptr σ3.next 0), (8, .bool true), (9, .ptr σ5.next 0)] σ7) κ = κ env σ8 := fun κ => by rw [g8]; rfl
  have l5 : ∀ κ : V → Ans, getL env 5 κ = κ (.sl 100 0 O.length (.ex O.length)) := fun κ => getL_of v5 rfl
  have l8 : ∀ κ : V → Ans, getL env 8 κ = κ (.bool true) := fun κ => getL_of v8 rfl
  have l10 : ∀ κ : V → Ans, getL env 10 κ = κ (.ptr b6 0) := fun κ => getL_of v10 rfl
  have l11 : ∀ κ : V → Ans, getL env 11 κ = κ (.int .i64 (Int.ofNat 0)) := fun κ => getL_of v11 rfl
  change TW [] 60 _ _ _ = _ at g3 g7 g9
  unfold t0 at g3
  unfold vo at a9
  have k1 : J10_1 [] (TW [] 60) (drawW [] (TW [] 60)) 600000 (.sl 100 0 O.length (.ex O.length)) σ2 = some (.bool true, σ9) := by
   show T10_1 [] (TW [] 60) (drawW [] (TW [] 60)) (.sl 100 0 O.length (.ex O.length)) σ2 = _
   unfold T10_1
   simp -implicitDefEqProofs only [↓rP, rS, rQ, decide_false, decide_true, Nat.reduceEqDiff, Nat.reduceLT, Nat.reduceLeDiff, ↓g3, ↓e4, ↓s5, ↓e6, ↓g7, ↓gd, ↓l5, ↓l8, ↓l10, ↓l11, ↓g9, ↓ldK_is a9, ↓g10]
  have k0 : ∀ K : Int → V → Int → Int → H → Ans, T10_0 [] (TW [] 60) (drawW [] (TW [] 60)) K a s ⟨100, []⟩ = K s (.sl 100 0 O.length (.ex O.length)) (Int.ofNat O.length) (Int.ofNat 0) σ1 := by
   intro K
   have c1 : (Nat.ble O.length O.length && Nat.ble (O.length * 1) 281474976710656 && Nat.ble O.length 1000000000000) = true := by
    simp only [Bool.and_eq_true, Nat.ble_eq]; omega
   have e1' : newB (⟨100, []⟩ : H) (.cells (List.replicate O.length [V.int .u8 (Int.ofNat 0)]).flatten) = σ1 := by rw [zeros]; exact e1
   unfold T10_0
   simp -implicitDefEqProofs only [en, ↓nnK_nat, ↓chk_if c1, ↓e1', ↓slenK_sl]
  show T10_0 [] (TW [] 60) (drawW [] (TW [] 60)) (L10_2 [] (TW [] 60) (drawW [] (TW [] 60)) 600000 600000) a s ⟨100, []⟩ = _
  rw [k0]
  exact g2.trans k1
 rw [key]; rfl
end
end Go.Proofs.YtgjjnbddbbhloaaGreatDoor
set_option maxRecDepth 100000
set_option maxHeartbeats 0
namespace Go.Proofs.YtgjjnbddbbhloaaGreatDoor.uperinLong
open Go
theorem k_inPlace : (Rows.uperinLongRow.inPlace == Tryz.pinned.checked.prog.inPlace 10) = true := by kernel_rfl
theorem k_unfollowed : (Rows.uperinLongRow.unfollowed == Tryz.pinned.checked.prog.unfollowed 10) = true := by kernel_rfl
theorem k_recurses : (Rows.uperinLongRow.recurses == Tryz.pinned.checked.prog.recurses 10) = true := by kernel_rfl
theorem k_varsNamed : (Rows.uperinLongRow.named == Tryz.pinned.checked.prog.varsNamed 10) = true := by kernel_rfl
end Go.Proofs.YtgjjnbddbbhloaaGreatDoor.uperinLong
