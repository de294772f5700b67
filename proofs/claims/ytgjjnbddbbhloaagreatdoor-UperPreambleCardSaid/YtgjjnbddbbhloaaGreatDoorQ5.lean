/- What the last text leans on, part 6 of 6: merged out of smaller texts. No condition. -/
import Derived.Test.YtgjjnbddbbhloaaGreatDoorChecked
import Derived.Test.YtgjjnbddbbhloaaGreatDoorCards
import Derived.KernelRfl
import Derived.Test.YtgjjnbddbbhloaaGreatDoorQ4
set_option linter.all false
set_option maxRecDepth 100000
namespace Go.Proofs.YtgjjnbddbbhloaaGreatDoor
open Go Go.Og
noncomputable section
structure Sk (σ : H) (w : Nat) (u sv : V) (S : List Nat) (bl : Nat → Nat) : Prop where
 s : Slots σ sv S bl
 o : ∀ b, Names sv b → Off σ w u b
 p : ∀ j, j < S.length → Off σ w u (bl j)
structure Bk (σ : H) (w : Nat) (u bv : V) (B : List Bool) : Prop where
 d : Dst σ 1 B.length bv (bls B)
 o : ∀ b, Names bv b → Off σ w u b
section
variable {σ σ1 : H} {w : Nat} {u u1 sv bv : V} {S L1 : List Nat} {bl : Nat → Nat} {B : List Bool}
theorem Sk.step (h : Sk σ w u sv S bl) (s : Pst σ w u σ1 u1 L1) (ht : Tidy σ) : Sk σ1 w u1 sv S bl :=
  ⟨⟨h.s.row.fr s.f ht fun b hb => (h.o b hb).not, fun j k hk => s.at_ ht (h.p j (by
    rcases Nat.lt_or_ge j S.length with h' | h'
    · exact h'
    · rw [List.getElem?_eq_none h'] at hk; cases hk)) (h.s.at_ j k hk), h.s.one⟩, fun b hb => s.off (h.o b hb), fun j hj => s.off (h.p j hj)⟩
theorem Sk.fr (h : Sk σ w u sv S bl) (f : Fr Nowhere σ σ1) (ht : Tidy σ) : Sk σ1 w u sv S bl := ⟨h.s.fr f ht, fun b hb => (h.o b hb).fr f, fun j hj => (h.p j hj).fr f⟩
theorem Bk.step (h : Bk σ w u bv B) (s : Pst σ w u σ1 u1 L1) (ht : Tidy σ) : Bk σ1 w u1 bv B := ⟨h.d.fr s.f ht fun b hb => (h.o b hb).not, fun b hb => s.off (h.o b hb)⟩
theorem Bk.fr (h : Bk σ w u bv B) (f : Fr Nowhere σ σ1) (ht : Tidy σ) : Bk σ1 w u bv B := ⟨h.d.fr f ht (fun _ _ h => h), fun b hb => (h.o b hb).fr f⟩
end
def SpOFs (P : H → Prop) (i : Nat) (nm : BS) (nv rv tv : V) (root : Int) (K : List Nat) (F : List V → H → Ans) : Prop := ∀ (σ : H), Tidy σ → P σ → ∃ fv lv σ', F [.agg [.str nm, nv, rv, tv], .int .i64 (Int.ofNat i)] σ = some (fv, σ') ∧
 fv.one = true ∧ lv.one = true ∧ sliceV 1 fv none (some (.int .i64 root)) none = some lv ∧ Src σ' 1 K.length lv (i64s K) ∧ (∀ b, Names lv b → σ.next ≤ b) ∧ Fr Nowhere σ σ'
def SpEAdds (F : List V → H → Ans) (x : Ty) (v0 : Vc) (S : List Nat) (B : List Bool) (g : Nat → Vc) (nT : Nat) (ty : Nat → Ty) (nf : Nat) (fd : Nat → Fd) (Y : List Nat) : Prop := ∀ {σ0 σ : H} {eb w : Nat} {u sv bv : V} {bl : Nat → Nat} {L : List Nat} {nm : BS} {nv rv tv : V},
 Tidy σ0 → Tb σ0 nT ty nv rv tv → SeqTy σ0 x nf fd → Row σ0 6 nf v0.l (fun k => (g k).c) → Wk σ0 σ eb w u [.str nm, nv, rv, tv] L → Sk σ w u sv S bl → Bk σ w u bv B → L.length < 900000 → V.beq sv sv = true → V.beq bv bv = true → V.beq (.agg [.str nm, nv, rv, tv]) (.agg [.str nm, nv, rv, tv]) = true →
 ∃ u' σ', F [.ptr eb 0, .agg x.c, .agg v0.c, sv, bv] σ = some (.tup [], σ') ∧ Pst σ w u σ' u' (L ++ Y)
section
variable {E : List (Nat × Blk)} {D : Den} {N : Nat} {nT : Nat} {ty : Nat → Ty} {nm : BS} {nv rv tv : V} {nf : Nat} {fd : Nat → Fd} {g : Nat → Vc} {ab : Nat → Bool} {X : Nat → List Nat} {x : Ty} {K : List Nat}
theorem one_l {v : V} (h : v.one = true) : v.live = true := live_of h
theorem fields_reg {P : H → Prop} (hPf : ∀ σ σ', Tidy σ → Fr Nowhere σ σ' → P σ → P σ') {i : Nat} (hOF : SpOFs P i nm nv rv tv x.root K (D 154)) (hS : SpESome (D 160) nT ty nf fd g ab X)
  {σ0 σ : H} (ht0 : Tidy σ0) (hP : P σ0) (T : Tb σ0 nT ty nv rv tv) (hs : SeqTy σ0 x nf fd) {v0 : Vc} (hr : Row σ0 6 nf v0.l fun k => (g k).c) (hKn : ∀ k ∈ K, k < nf) (hKl : K.length < 400) {eb w q5 q6 : Nat} {u sv bv : V} {later : Bool} {L : List Nat}
  (wk : Wk σ0 σ eb w u [.str nm, nv, rv, tv] L) (kx : Kp σ w u q6 x.c) (kv : Kp σ w u q5 v0.c) (hl : L.length < 500000) (hxb : V.beq (.agg x.c) (.agg x.c) = true) (hvb : V.beq (.agg v0.c) (.agg v0.c) = true) (htb : V.beq (.agg [.str nm, nv, rv, tv]) (.agg [.str nm, nv, rv, tv]) = true) :
  ∃ e' u' σ', drawW E D G84_0 H84_0 [(0, .ptr eb 0), (1, .int .i64 (Int.ofNat i)), (5, .ptr q5 0), (6, .ptr q6 0), (7, sv), (8, bv), (11, .bool later)] σ = some (e', σ') ∧
   Go.Og.look e' 0 = some (.ptr eb 0) ∧ Go.Og.look e' 5 = some (.ptr q5 0) ∧ Go.Og.look e' 6 = some (.ptr q6 0) ∧ Go.Og.look e' 7 = some sv ∧ Go.Og.look e' 8 = some bv ∧ Go.Og.look e' 11 = some (.bool later) ∧
   Pst σ w u σ' u' (L ++ (preF (fun k => (fd k).op) ab K ++ bodyF ab X K)) := by
 have ht := wk.tidy
 have fw : Fr Nowhere σ ⟨σ.next + 13, σ.bl⟩ := (go_start (E := E) (n := 13) (S := Nowhere) ht).fr
 obtain ⟨fv, lv, σ1, g1, o1, o2, hsl, hK, hnew, f1⟩ := hOF ⟨σ.next + 13, σ.bl⟩ fw.tidy (hPf _ _ ht fw (hPf _ _ ht0 wk.f hP))
 have f01 := fw.trans f1 (fun _ _ h => h)
 have w1 := wk.fr f01
 have le1 : σ.next ≤ (⟨σ.next + 13, σ.bl⟩ : H).next := Nat.le_add_right _ _
 have k1 : Ks σ1 w u lv K := ⟨hK, fun b hb => Off.pw wk.pw ht (Nat.le_trans le1 (hnew b hb)) (hK.lt f1.tidy hb)⟩
 obtain ⟨u2, σ2, g2, s2⟩ := hS ht0 T hs hr hKn rfl w1 k1 hl hKl
 have ax := kx.a
 have av := kv.a
 have ae := wk.e
 have lw : ∀ b, Own1 w u b → b < σ.next := fun b hb => by
  rcases hb with hb | hb
  ·subst hb; exact wk.pw.at_.lt ht
  ·exact wk.pw.d.lt ht hb
 have lx : V.live (.agg x.c) = true := by
  simp [Ty.c, one_l x.oneT, one_l x.oneI, one_l x.oneF, V.live]
 have lv0 : V.live (.agg v0.c) = true := by
  simp [Vc.c, one_l v0.oneB, one_l v0.oneL, one_l v0.oneM, V.live]
 have ltb : V.live (.agg [.str nm, nv, rv, tv]) = true := by
  simp [one_l T.n1, one_l T.r1, one_l T.t1, V.live]
 have go : Goes E D σ 13 0 (Own1 w u) G84_0 H84_0 ⟨[(0, .ptr eb 0), (1, .int .i64 (Int.ofNat i)), (5, .ptr q5 0), (6, .ptr q6 0), (7, sv), (8, bv), (11, .bool later)], σ.next + 13, [σ.bl], [], 0, []⟩ _ σ2 :=
   go_p (.ptr eb 0) rfl rfl <|
   go_l (.agg x.c) (go_start ht) rfl (old_ldn (b := q6) (off := 0) rfl ax rfl rfl ht kx.o.not hxb) fun _ r1 =>
   go_l (.agg v0.c) r1 rfl (old_ldn (b := q5) (off := 0) rfl av rfl rfl ht kv.o.not hvb) fun _ r2 =>
   go_p (.ptr eb 0) rfl rfl <|
   go_p (.ptr eb 0) rfl rfl <|
   go_p (.ptr eb 1) rfl rfl <|
   go_l (.agg [.str nm, nv, rv, tv]) r2 rfl (old_ldn (b := eb) (off := 1) rfl ae rfl rfl ht wk.eo.not htb) fun _ r3 =>
   go_p (.int .i64 (Int.ofNat i)) rfl rfl <|
   go_k fv r3 rfl (by decide) (S' := Nowhere) f1 (fun _ _ h => h.elim) (fun _ h _ _ => h) (call_of (vs := [.agg [.str nm, nv, rv, tv], .int .i64 (Int.ofNat i)]) rfl (by show (V.live (.agg [.str nm, nv, rv, tv]) && (V.live (.int .i64 (Int.ofNat i)) && true)) = true; rw [ltb]; rfl) g1) fun _ _ _ r4 =>
   go_p (.ptr q6 10) rfl rfl <|
   go_l (.int .i64 x.root) r4 rfl (old_ld1 (b := q6) (off := 10) rfl ax rfl ht kx.o.not (beq_self _ rfl)) fun _ r5 =>
   go_p lv rfl hsl <|
   go_k (.tup []) r5 rfl (by decide) (S' := Own1 w u) s2.f (fun _ _ h => h) (fun b h h1 _ => by have := lw b h; omega) (call_of (vs := [.ptr eb 0, .agg x.c, .agg v0.c, lv]) rfl (by show (V.live (.ptr eb 0) && (V.live (.agg x.c) && (V.live (.agg v0.c) && (V.live lv && true)))) = true; rw [lx, lv0, one_l o2]; rfl) g2) fun _ _ _ r6 =>
   go_nil r6
 obtain ⟨d1, d2⟩ := go_draw (ops := G84_0) go
 exact ⟨_, u2, σ2, d1, rfl, rfl, rfl, rfl, rfl, rfl, Pst.behind f01 s2⟩
end
end
noncomputable section
def bitB (c : Bool) : Nat := if c = true then 1 else 0
section
variable {E : List (Nat × Blk)} {D D' : Den} {N : Nat} {nT : Nat} {ty : Nat → Ty} {nm : BS} {nv rv tv : V} {nf : Nat} {fd : Nat → Fd} {g : Nat → Vc} {ab : Nat → Bool} {X : Nat → List Nat} {K S : List Nat}
theorem there_loop (hA : SpAb (D 158) nf g ab) (hC : SpCfI (D 156) D') (hq : ∀ (σ : H) (q k : Nat) (l : V) (hl : l.one = true) (r : Int) (mv : V) (hm : mv.one = true), Tidy σ → Row σ 6 nf l (fun k => (g k).c) → k < nf → Atc σ q (Vc.sq l hl r mv hm).c → ∃ σ', D' 157 ([] ++ [.int .i64 (Int.ofNat k)] ++ [.ptr q 0]) σ = some (.bool (!ab k), σ') ∧ Fr Nowhere σ σ')
  (hS : ∀ k ∈ S, k < nf) (hSl : S.length ≤ 1000) {W : DrawFn} {i eb q5 q6 : Nat} {sv l : V} {hl : l.one = true} {r : Int} {mv : V} {hm : mv.one = true} {bl : Nat → Nat} {σ0 : H} (ht0 : Tidy σ0) (hr : Row σ0 6 nf l fun k => (g k).c) (a5 : Atc σ0 q5 (Vc.sq l hl r mv hm).c) (sl : Slots σ0 sv S bl) :
  ∀ (m n' j : Nat) (bv : V) (σ : H), j + m = S.length → m < n' → Fr Nowhere σ0 σ → Nw σ0 σ 1 j bv (bls ((S.take j).map fun k => !ab k)) →
   ∃ bv' σ', L84_2 E D W N n' eb 0 (Int.ofNat i) q5 0 q6 0 sv bv sv (Int.ofNat S.length) (Int.ofNat j) σ = J84_1 E D W N eb 0 (Int.ofNat i) q5 0 q6 0 sv bv' σ' ∧ Fr Nowhere σ0 σ' ∧ Nw σ0 σ' 1 S.length bv' (bls (S.map fun k => !ab k)) := by
 intro m
 induction m with
 | zero =>
  intro n' j bv σ hj hn' f0 hn
  obtain ⟨n', rfl⟩ : ∃ k, n' = k + 1 := ⟨n' - 1, by omega⟩
  obtain rfl : j = S.length := by omega
  rw [List.take_length] at hn
  refine ⟨bv, σ, ?_, f0, hn⟩
  have k0 : ∀ K1 R, T84_2 E D W K1 R eb 0 (Int.ofNat i) q5 0 q6 0 sv bv sv (Int.ofNat S.length) (Int.ofNat S.length) σ = K1 eb 0 (Int.ofNat i) q5 0 q6 0 sv bv σ := by
   intro K1 R
   unfold T84_2
   rw [ltF_nat, decide_eq_false (by omega), condK_false]
  exact k0 _ _
 | succ m ih =>
  intro n' j bv σ hj hn' f0 hn
  obtain ⟨n', rfl⟩ : ∃ k, n' = k + 1 := ⟨n' - 1, by omega⟩
  have hlt : j < S.length := by omega
  have hk : S[j]? = some S[j] := List.getElem?_eq_getElem hlt
  have hm' : S[j] ∈ S := List.getElem_mem hlt
  have d1 : decide (j < S.length) = true := decide_eq_true hlt
  have s1 := sl.fr f0 ht0
  have r1 : ∀ κ, iaddrSK 1 sv (Int.ofNat j) (fun b o => ldK E σ b o κ) = κ (.sl (bl j) 0 1 (.ex 1)) := fun κ => s1.rd hk κ
  obtain ⟨σ1, g1, f1⟩ := hC σ (bl j) S[j] 157 [.ptr q5 0] (!ab S[j]) (s1.at_ j _ hk) (hq σ q5 S[j] l hl r mv hm f0.tidy (hr.fr0 f0 ht0) (hS _ hm') (f0.at_ a5 ht0 (fun h => h)))
  have f01 := f0.trans f1 (fun _ _ h => h)
  obtain ⟨σ2, e2, f2, a2, n2⟩ := mk_new f1.tidy [.bool (!ab S[j])]
  have f02 := f01.trans f2 (fun _ _ h => h)
  have xs : Src σ2 1 1 (V.sl σ1.next 0 1 (.ex 1)) [.bool (!ab S[j])] := .inr ⟨_, _, _, _, rfl, a2, Nat.le_refl _, rfl⟩
  obtain ⟨bv3, σ3, g3, h3, f03⟩ := nw_app (E := E) (bytes := 1) ((hn.fr f1 f0.tidy).fr f2 f1.tidy) f02 xs rfl (by unfold growable; simp only [Nat.mul_one, Bool.and_eq_true, Nat.ble_eq]; omega)
  have et : bls ((S.take j).map fun k => !ab k) ++ [.bool (!ab S[j])] = bls ((S.take (j + 1)).map fun k => !ab k) := by
   have h : S.take (j + 1) = S.take j ++ [S[j]] := by rw [List.take_succ, hk]; rfl
   unfold bls
   rw [h, List.map_append, List.map_append]; rfl
  rw [et] at h3
  obtain ⟨bv4, σ4, g4, f4, h4⟩ := ih n' (j + 1) bv3 σ3 (by omega) (by omega) f03 h3
  refine ⟨bv4, σ4, ?_, f4, h4⟩
  have k1 : ∀ K1 R, T84_2 E D W K1 R eb 0 (Int.ofNat i) q5 0 q6 0 sv bv sv (Int.ofNat S.length) (Int.ofNat j) σ = R eb 0 (Int.ofNat i) q5 0 q6 0 sv bv3 sv (Int.ofNat S.length) (Int.ofNat (j + 1)) σ3 := by
   intro K1 R
   unfold T84_2
   simp -implicitDefEqProofs only [↓rP, rS, rQ, decide_false, decide_true, Nat.reduceEqDiff, Nat.reduceLT, Nat.reduceLeDiff, d1, ↓r1, ↓g1, ↓e2, ↓g3, ↓rtOne_of h3.1.one, addF_nat (show j + 1 ≤ 9223372036854775807 by omega)]
  exact (k1 _ _).trans g4
def fieldB (x : Ty) (fd : Nat → Fd) (ab : Nat → Bool) (X : Nat → List Nat) (K : List Nat) (later : Bool) (Y : List Nat) : List Nat :=
 (if x.more = true then [bitB later] else []) ++ ((preF (fun k => (fd k).op) ab K ++ bodyF ab X K) ++ if later = true then Y else [])
theorem fields_e {P : H → Prop} (hPf : ∀ σ σ', Tidy σ → Fr Nowhere σ σ' → P σ → P σ') {i : Nat} (hOS : SpSlots P S i nm nv rv tv (D 155)) (hA : SpAb (D 158) nf g ab) (hC : SpCfI (D 156) D')
    (hq : ∀ (σ : H) (q k : Nat) (l : V) (hl : l.one = true) (r : Int) (mv : V) (hm : mv.one = true), Tidy σ → Row σ 6 nf l (fun k => (g k).c) → k < nf → Atc σ q (Vc.sq l hl r mv hm).c → ∃ σ', D' 157 ([] ++ [.int .i64 (Int.ofNat k)] ++ [.ptr q 0]) σ = some (.bool (!ab k), σ') ∧ Fr Nowhere σ σ')
    (hCB : SpCB (D 159)) (hFl : SpEFlag (D 71)) (hOF : SpOFs P i nm nv rv tv (ty i).root K (D 154)) (hSo : SpESome (D 160) nT ty nf fd g ab X)
    {l : V} {hl : l.one = true} {r : Int} {mv : V} {hm : mv.one = true} {nm' : Nat} (hml : Len mv nm') {Y : List Nat} (hAd : (decide (0 < nm') || (S.map fun k => !ab k).any id) = true → SpEAdds (D 161) (ty i) (Vc.sq l hl r mv hm) S (S.map fun k => !ab k) g nT ty nf fd Y)
    (hS : ∀ k ∈ S, k < nf) (hSl : S.length ≤ 1000) (hKn : ∀ k ∈ K, k < nf) (hKl : K.length < 400) (hX : ∀ k, (X k).length ≤ 1000) (hN : 1001 < N)
    {σ0 σ : H} (ht0 : Tidy σ0) (hP : P σ0) (T : Tb σ0 nT ty nv rv tv) (hi : i < nT) (hs : SeqTy σ0 (ty i) nf fd) (hr : Row σ0 6 nf l fun k => (g k).c) {eb w : Nat} {u : V} {L : List Nat} (wk : Wk σ0 σ eb w u [.str nm, nv, rv, tv] L) (hL : L.length < 400000)
    (hxb : V.beq (.agg (ty i).c) (.agg (ty i).c) = true) (hvb : V.beq (.agg (Vc.sq l hl r mv hm).c) (.agg (Vc.sq l hl r mv hm).c) = true) (htb : V.beq (.agg [.str nm, nv, rv, tv]) (.agg [.str nm, nv, rv, tv]) = true)
    (hsb : ∀ (σ : H) (sv : V) (bl : Nat → Nat), Slots σ sv S bl → V.beq sv sv = true) :
    ∃ u' σ', F84 E D (drawW E D) N [.ptr eb 0, .int .i64 (Int.ofNat i), .agg (Vc.sq l hl r mv hm).c] σ = some (.tup [], σ') ∧
      Pst σ w u σ' u' (L ++ fieldB (ty i) fd ab X K (decide (0 < nm') || (S.map fun k => !ab k).any id) Y) := by
  obtain ⟨σ1, e1, f1, a1, n1⟩ := mk_new wk.tidy (Vc.sq l hl r mv hm).c
  obtain ⟨σ2, e2, f2, a2, n2⟩ := mk_new f1.tidy [.int .i64 (Int.ofNat 0), .nils, .bool false, .bool false, .bool false, .bool false, .int .i64 (Int.ofNat 0), .int .i64 (Int.ofNat 0), .nils, .nils, .int .i64 (Int.ofNat 0), .bool false, .int .i64 (Int.ofNat 0)]
  obtain ⟨σ3, e3, f3, a3⟩ := mk_set f2.tidy a2 (ty i).c
  have l1 := f1.le
  have l2 := f2.le
  have f13 : Fr Nowhere σ1 σ3 := f2.trans f3 (fun b hb e => by omega)
  have f03 := f1.trans f13 (fun _ _ h => h)
  have w1 := wk.fr f1
  have w3 := wk.fr f03
  have b3 := f13.at_ a1 f1.tidy (fun h => h)
  have x3 : Kp σ3 w u σ1.next (ty i).c := Kp.new wk.pw wk.tidy l1 f13.tidy a3
  have v3 : Kp σ3 w u σ.next (Vc.sq l hl r mv hm).c := Kp.new wk.pw wk.tidy (Nat.le_refl _) f13.tidy b3
  obtain ⟨sv, bl, σ4, g4, sl, f4, nsv, nbl⟩ := hOS σ3 f13.tidy (hPf _ _ ht0 w3.f hP)
  have w4 := w3.fr f4
  have x4 := x3.fr f4 w3.tidy
  have v4 := v3.fr f4 w3.tidy
  obtain ⟨bv, σ5, g5, f5, h5⟩ := there_loop (N := N) (E := E) (W := drawW E D) (i := i) (eb := eb) (q6 := σ1.next) hA hC hq hS hSl w4.tidy (hr.fr0 w4.f ht0) v4.a sl S.length N 0 .nils σ4 (by omega) (by omega) (Fr.refl w4.tidy) (Nw.nil σ4 σ4 1)
  have w5 := w4.fr f5
  have x5 := x4.fr f5 w4.tidy
  have v5 := v4.fr f5 w4.tidy
  have l03 := f03.le
  have l4 := f4.le
  have s4 : Sk σ4 w u sv S bl := ⟨sl, fun b hb => Off.pw wk.pw wk.tidy (Nat.le_trans l03 (nsv b hb)) (by
    rcases sl.row.is with ⟨_, rfl⟩ | ⟨b', c, M, rfl, ha, _⟩
    · exact hb.elim
    · have h : b = b' := hb
      subst h; exact ha.lt w4.tidy), fun j hj => Off.pw wk.pw wk.tidy (Nat.le_trans l03 (nbl j hj)) ((sl.at_ j _ (List.getElem?_eq_getElem hj)).lt w4.tidy)⟩
  have s5 := s4.fr f5 w4.tidy
  have b5 : Bk σ5 w u bv (S.map fun k => !ab k) := ⟨by rw [List.length_map]; exact h5.1, fun b hb => Off.pw wk.pw wk.tidy (by have := h5.2 b hb; omega) (h5.1.lt w5.tidy hb)⟩
  have gc := hCB σ5 bv (S.map fun k => !ab k) b5.d.src (by rw [List.length_map]; exact hSl)
  have a5v := v5.a
  have a5x := x5.a
  obtain ⟨u6, σ6, g6, s6⟩ : ∃ u6 σ6, (∀ K3, T84_1 E D (drawW E D) K3 eb 0 (Int.ofNat i) σ.next 0 σ1.next 0 sv bv σ5 = K3 eb 0 (Int.ofNat i) σ.next 0 σ1.next 0 sv bv (decide (0 < nm') || (S.map fun k => !ab k).any id) σ6) ∧ Pst σ5 w u σ6 u6 (L ++ (if (ty i).more = true then [bitB (decide (0 < nm') || (S.map fun k => !ab k).any id)] else [])) := by
    generalize hla : (S.map fun k => !ab k).any id = la at *
    unfold Vc.sq Vc.c at a5v
    unfold Ty.c at a5x
    have ml := hml.2
    cases hmo : (ty i).more with
    | true =>
      obtain ⟨u6, σ6, g6, s6⟩ := hFl σ5 eb w u L (decide (0 < nm') || la) _ w5.e w5.pw w5.tidy (by omega)
      refine ⟨u6, σ6, fun K3 => ?_, by rw [if_pos rfl]; exact s6⟩
      rw [hmo] at a5x
      unfold T84_1
      by_cases h0 : 0 < nm'
      · rw [decide_eq_true h0, Bool.true_or] at g6
        simp -implicitDefEqProofs only [↓rP, rS, rQ, decide_false, decide_true, Nat.reduceEqDiff, Nat.reduceLT, Nat.reduceLeDiff, ↓ldK_is a5v, ↓ml, decide_eq_true h0, ↓ldK_is a5x, ↓g6]
      · rw [decide_eq_false h0, Bool.false_or] at g6
        simp -implicitDefEqProofs only [↓rP, rS, rQ, decide_false, decide_true, Nat.reduceEqDiff, Nat.reduceLT, Nat.reduceLeDiff, ↓ldK_is a5v, ↓ml, decide_eq_false h0, ↓gc, ↓ldK_is a5x, ↓g6]
    | false =>
      refine ⟨u, σ5, fun K3 => ?_, by rw [if_neg (by decide), List.append_nil]; exact Pst.refl w5.pw w5.tidy⟩
      rw [hmo] at a5x
      unfold T84_1
      by_cases h0 : 0 < nm'
      · simp -implicitDefEqProofs only [↓rP, rS, rQ, decide_false, decide_true, Nat.reduceEqDiff, Nat.reduceLT, Nat.reduceLeDiff, ↓ldK_is a5v, ↓ml, decide_eq_true h0, ↓ldK_is a5x]
      · simp -implicitDefEqProofs only [↓rP, rS, rQ, decide_false, decide_true, Nat.reduceEqDiff, Nat.reduceLT, Nat.reduceLeDiff, ↓ldK_is a5v, ↓ml, decide_eq_false h0, ↓gc, ↓ldK_is a5x]
  have w6 := w5.step s6
  have x6 := x5.step s6 w5.tidy
  have v6 := v5.step s6 w5.tidy
  have S6 := s5.step s6 w5.tidy
  have B6 := b5.step s6 w5.tidy
  have len6 : (L ++ (if (ty i).more = true then [bitB (decide (0 < nm') || (S.map fun k => !ab k).any id)] else [])).length ≤ L.length + 1 := by rw [List.length_append]; split <;> simp
  generalize hLa : (decide (0 < nm') || (S.map fun k => !ab k).any id) = la at *
  obtain ⟨e', u7, σ7, g7, q0, q5, q6, q7, q8, q11, s7⟩ := fields_reg (E := E) (later := la) (sv := sv) (bv := bv) hPf hOF hSo ht0 hP T hs hr hKn hKl w6 x6 v6 (by omega) hxb hvb htb
  have w7 := w6.step s7
  have a7x := (x6.step s7 w6.tidy).a
  have a7v := (v6.step s7 w6.tidy).a
  have S7 := S6.step s7 w6.tidy
  have B7 := B6.step s7 w6.tidy
  have f05 : Fr Nowhere σ σ5 := (f03.trans f4 (fun _ _ h => h)).trans f5 (fun _ _ h => h)
  have hbo := bodyF_len (ab := ab) hX K
  have hpo := preF_len (fun k => (fd k).op) ab K
  have len7 : ((L ++ (if (ty i).more = true then [bitB la] else [])) ++ (preF (fun k => (fd k).op) ab K ++ bodyF ab X K)).length < 900000 := by
    simp only [List.length_append] at len6 ⊢; omega
  obtain ⟨u8, σ8, g8, s8⟩ : ∃ u8 σ8, T84_3 E D (drawW E D) eb 0 (Int.ofNat i) σ.next 0 σ1.next 0 sv bv la σ6 = some (.tup [], σ8) ∧ Pst σ6 w u6 σ8 u8 ((L ++ (if (ty i).more = true then [bitB la] else [])) ++ ((preF (fun k => (fd k).op) ab K ++ bodyF ab X K) ++ if la = true then Y else [])) := by
    have gd : ∀ κ : Env → H → Ans, gdrawK (drawW E D G84_0 H84_0 [(0, .ptr eb 0), (1, .int .i64 (Int.ofNat i)), (5, .ptr σ.next 0), (6, .ptr σ1.next 0), (7, sv), (8, bv), (11, .bool la)] σ6) κ = κ e' σ7 := fun κ => by rw [g7]; rfl
    have m0 : ∀ κ : V → Ans, getL e' 0 κ = κ (.ptr eb 0) := fun κ => getL_of q0 rfl
    have m5 : ∀ κ : V → Ans, getL e' 5 κ = κ (.ptr σ.next 0) := fun κ => getL_of q5 rfl
    have m6 : ∀ κ : V → Ans, getL e' 6 κ = κ (.ptr σ1.next 0) := fun κ => getL_of q6 rfl
    have m7 : ∀ κ : V → Ans, getL e' 7 κ = κ sv := fun κ => getL_of q7 (live_of sl.one)
    have m8 : ∀ κ : V → Ans, getL e' 8 κ = κ bv := fun κ => getL_of q8 (live_of h5.1.one)
    have m11 : ∀ κ : V → Ans, getL e' 11 κ = κ (.bool la) := fun κ => getL_of q11 rfl
    unfold T84_3
    cases la with
    | false =>
      refine ⟨u7, σ7, ?_, by rw [if_neg (show ¬ false = true by decide), List.append_nil]; exact s7⟩
      simp -implicitDefEqProofs only [↓rP, rS, ↓gd, ↓m0, ↓m5, ↓m6, ↓m7, ↓m8, ↓m11]
    | true =>
      obtain ⟨u8, σ8, g8, s8⟩ := hAd rfl ht0 T hs hr w7 S7 B7 len7 (hsb _ _ _ S7.s) (by
        rcases B7.d with (⟨_, h, _⟩ | ⟨b, h, _⟩) | ⟨b, h, _⟩ <;> rw [h] <;> exact beq_self _ rfl) htb
      refine ⟨u8, σ8, ?_, by have := s7.trans s8; rw [List.append_assoc] at this; rw [if_pos rfl]; exact this⟩
      unfold Ty.c at a7x g8
      unfold Vc.sq Vc.c at a7v g8
      simp -implicitDefEqProofs only [↓rP, rS, ↓gd, ↓m0, ↓m5, ↓m6, ↓m7, ↓m8, ↓m11, ↓ldnK_is a7x, ↓ldnK_is a7v, (ty i).oneT, (ty i).oneI, (ty i).oneF, hl, hm, ↓g8]
  refine ⟨u8, σ8, ?_, ?_⟩
  · have rd : ∀ κ, iaddrSK 13 tv (Int.ofNat i) (fun b o => ldnK E σ1 b o 13 κ) = κ (ty i).c := fun κ => (T.row.fr0 w1.f ht0).all hi κ
    have st : ∀ κ : H → Ans, stK 13 σ1.next 0 (.agg (ty i).c) σ2 κ = κ σ3 := fun κ => by
      rw [stK_at a2 (by unfold Ty.c; simp [cells_agg, allOne_cons, allOne_nil, one_int, one_bool, (ty i).oneT, (ty i).oneI, (ty i).oneF])]
      show κ (setF σ2 σ1.next (.cells (ty i).c)) = _
      rw [e3]
    have ee := w1.e
    have e3e := w3.e
    have n1' := T.n1
    have r1' := T.r1
    have t1' := T.t1
    have lsv := sl.row.len.2
    have tb3 : ∀ κ : List V → Ans, ldnK E σ3 eb 1 4 κ = κ [.str nm, nv, rv, tv] := fun κ => (ldnK_is e3e).trans rfl
    have tv1 : ∀ κ : V → Ans, ldK E σ1 eb 4 κ = κ tv := fun κ => (ldK_is ee).trans rfl
    unfold Ty.c at rd st
    unfold Vc.sq Vc.c at e1
    have k0 : ∀ K2, T84_0 E D (drawW E D) K2 eb 0 (Int.ofNat i) (Int.ofNat 7) (Int.ofNat 0) .nils l r mv σ = K2 eb 0 (Int.ofNat i) σ.next 0 σ1.next 0 sv .nils sv (Int.ofNat S.length) (Int.ofNat 0) σ4 := by
      intro K2
      unfold T84_0
      simp -implicitDefEqProofs only [↓rP, rS, hl, hm, ↓e1, ↓tv1, ↓rd, ↓e2, ↓st, ↓tb3, n1', r1', t1', ↓g4, ↓rtOne_of sl.one, ↓lsv]
    show T84_0 E D (drawW E D) (L84_2 E D (drawW E D) N N) eb 0 (Int.ofNat i) (Int.ofNat 7) (Int.ofNat 0) .nils l r mv σ = _
    rw [k0, g5]
    show T84_1 E D (drawW E D) (T84_3 E D (drawW E D)) eb 0 (Int.ofNat i) σ.next 0 σ1.next 0 sv bv σ5 = _
    rw [g6, g8]
  · have := Pst.behind f05 (s6.trans s8)
    unfold fieldB
    rw [List.append_assoc] at this
    exact this
end
end
noncomputable section
theorem pack_lt' {L : List Nat} (hb : Bin L) : ∀ c ∈ pack L, c < 256 := by
 intro c hc
 obtain ⟨j, _, rfl⟩ := List.mem_map.1 hc
 exact packB_lt hb j
section
variable {E : List (Nat × Blk)} {D : Den} {N : Nat} {nT : Nat} {ty : Nat → Ty} {nm : BS} {nv rv tv : V} {nf : Nat} {fd : Nat → Fd} {g : Nat → Vc} {ab : Nat → Bool} {X : Nat → List Nat} {K S : List Nat}
def SpEOpen (F : List V → H → Ans) (D : Den) : Prop := ∀ {σ0 σ : H} {eb w : Nat} {u : V} {L X : List Nat} {nm : BS} {nv rv tv : V} {f : Nat} {caps : List V}, Wk σ0 σ eb w u [.str nm, nv, rv, tv] L → nv.one = true → rv.one = true → tv.one = true → L.length < 1000000 → 0 < X.length → X.length ≤ 1000 →
 (∀ (σ1 : H) (eb1 w1 : Nat), Wk σ σ1 eb1 w1 .nils [.str nm, nv, rv, tv] [] → ∃ u' σ', D f ([] ++ [.ptr eb1 0] ++ caps) σ1 = some (.tup [], σ') ∧ Pst σ1 w1 .nils σ' u' X) →
 ∃ u' σ', F [.ptr eb 0, .fn f [] caps] σ = some (.tup [], σ') ∧ Pst σ w u σ' u' (L ++ (bitsOf 8 (packN X.length) ++ bitsO (pack X)))
theorem open_reg (hB : SpWBytes (D 40)) (hP : SpLPut (D 74)) {σ0 σ σ2 : H} {eb w eb1 w1 : Nat} {u u1 : V} {L X : List Nat} {cs cs1 : List V} (wk : Wk σ0 σ2 eb w u cs L) (a1 : Atc σ2 eb1 (.ptr w1 0 :: cs1)) (o1 : Off σ2 w u eb1) (p1 : Pw σ2 w1 u1 X) (hl : L.length < 1000000) (hX : 0 < X.length) (hX' : X.length ≤ 1000) :
  ∃ e' u' σ', drawW E D G152_0 H152_0 [(0, .ptr eb 0), (4, .ptr eb1 0)] σ2 = some (e', σ') ∧ Pst σ2 w u σ' u' (L ++ (bitsOf 8 (packN X.length) ++ bitsO (pack X))) := by
 have ht := wk.tidy
 have fw : Fr Nowhere σ2 ⟨σ2.next + 11, σ2.bl⟩ := (go_start (E := E) (n := 11) (S := Nowhere) ht).fr
 obtain ⟨v, σ3, g3, n3, f3⟩ := hB ⟨σ2.next + 11, σ2.bl⟩ w1 u1 X (p1.fr fw ht) fw.tidy (by omega) hX
 have f03 := fw.trans f3 (fun _ _ h => h)
 have le3 : σ2.next + 11 ≤ σ3.next := f3.le
 have nv3 : ∀ c, Names v c → σ2.next + 11 ≤ c := n3.2
 obtain ⟨σa, ha⟩ : ∃ σa, σa = (⟨σ3.next, (σ2.next + 9, .cells [v]) :: σ3.bl⟩ : H) := ⟨_, rfl⟩
 have fa : Fr (fun b => b = σ2.next + 9) σ3 σa := by
  rw [ha]
  refine ⟨fun b hb => ?_, Nat.le_refl _, fun b hb hn => ?_⟩
  ·have hb : σ3.next ≤ b := hb
   show lookF ((σ2.next + 9, _) :: σ3.bl) b = none
   rw [lookF_cons, if_neg (by simp only []; omega)]
   exact f3.tidy b hb
  ·show lookF ((σ2.next + 9, _) :: σ3.bl) b = _
   rw [lookF_cons, if_neg (fun e => hn e.symm)]
 have aa : Atc σa (σ2.next + 9) [v] := by
  rw [ha]
  show lookF ((σ2.next + 9, _) :: σ3.bl) _ = _
  rw [lookF_cons, if_pos rfl]
 have f0a : Fr Nowhere σ2 σa := f03.trans fa (fun b hb e => by omega)
 have va : By σa v (nI (pack X)) := Src.fr n3.by_ fa f3.tidy fun b hb e => by have := nv3 b hb; omega
 have pl : (pack X).length < 128 := by rw [pack_length]; unfold packN; omega
 have bx : Bin X := p1.bin
 have wa := wk.fr f0a
 obtain ⟨u5, σ5, g5, s5⟩ := hP σa w (σ2.next + 9) u v L (pack X) wa.pw wa.tidy (by omega) pl (pack_lt' bx) aa va
 rw [pack_length] at s5
 have lw : ∀ b, Own1 w u b → b < σ2.next := fun b hb => by
  rcases hb with hb | hb
  ·subst hb; exact wk.pw.at_.lt ht
  ·exact wk.pw.d.lt ht hb
 have ae := wk.e
 have go : Goes E D σ2 11 0 (Own1 w u) G152_0 H152_0 ⟨[(0, .ptr eb 0), (4, .ptr eb1 0)], σ2.next + 11, [σ2.bl], [], 0, []⟩ _ σ5 :=
   go_p (.ptr eb 0) rfl rfl <|
   go_p (.ptr eb 0) rfl rfl <|
   go_p (.ptr eb 0) rfl rfl <|
   go_l (.ptr w 0) (go_start ht) rfl (old_ld1 (b := eb) (off := 0) rfl ae rfl ht wk.eo.not (beq_self _ rfl)) fun _ r1 =>
   go_p (.ptr eb1 0) rfl rfl <|
   go_p (.ptr eb1 0) rfl rfl <|
   go_p (.ptr eb1 0) rfl rfl <|
   go_l (.ptr w1 0) r1 rfl (old_ld1 (b := eb1) (off := 0) rfl a1 rfl ht o1.not (beq_self _ rfl)) fun _ r2 =>
   go_k v r2 rfl (by decide) (S' := Nowhere) f3 (fun _ _ h => h.elim) (fun _ h _ _ => h) (call_of (vs := [.ptr w1 0]) rfl rfl g3) fun _ _ _ r3 =>
   go_a (.sl (σ2.next + 9) 0 1 (.ex 1)) (.cells [v]) 512 r3 rfl (by decide) (by decide) (build1 rfl n3.1.one) fun _ r4 =>
   go_k (.tup []) (by rw [← ha] at r4; exact r4) rfl (by decide) (S' := Own1 w u) s5.f (fun _ _ h => h) (fun b h h1 _ => by have := lw b h; omega) (call_of (vs := [.ptr w 0, .sl (σ2.next + 9) 0 1 (.ex 1)]) rfl rfl g5) fun _ _ _ r5 =>
   go_nil r5
 obtain ⟨d1, d2⟩ := go_draw (ops := G152_0) go
 exact ⟨_, u5, σ5, d1, Pst.behind f0a s5⟩
theorem eopen_F (hB : SpWBytes (D 40)) (hP : SpLPut (D 74)) : SpEOpen (F152 E D (drawW E D) N) D := by
 intro σ0 σ eb w u L X nm nv rv tv f caps wk h1 h2 h3 hl hX hX' hq
 obtain ⟨σ1, e1, f1, a1, n1⟩ := mk_new wk.tidy [.nils, .int .i64 (Int.ofNat 0)]
 obtain ⟨σ2, e2, f2, a2, n2⟩ := mk_new f1.tidy [.ptr σ.next 0, .str nm, nv, rv, tv]
 have f02 := f1.trans f2 (fun _ _ h => h)
 have w1 := wk.fr f1
 have w2 := wk.fr f02
 have a12 := f2.at_ a1 f1.tidy (fun h => h)
 have l1 := f1.le
 have p2 : Pw σ2 σ.next .nils [] := ⟨a12, Dst.nil σ2 1, fun h => h.elim, fun b hb => by cases hb⟩
 have k2 : Wk σ σ2 σ1.next σ.next .nils [.str nm, nv, rv, tv] [] := ⟨p2, f02, fun b hb => by
  rcases hb with hb | hb
  ·exact Nat.le_of_eq hb.symm
  ·exact hb.elim, a2, ⟨a2.lt f2.tidy, by omega, fun h => h.elim⟩⟩
 obtain ⟨u3, σ3, g3, s3⟩ := hq σ2 σ1.next σ.next k2
 have k3 := k2.step s3
 have w3 := wk.fr k3.f
 have o3 : Off σ3 w u σ1.next := Off.pw wk.pw wk.tidy l1 (k3.e.lt k3.tidy)
 obtain ⟨e', u4, σ4, g4, s4⟩ := open_reg (E := E) (σ := σ) hB hP w3 k3.e o3 k3.pw hl hX hX'
 refine ⟨u4, σ4, ?_, Pst.behind k3.f s4⟩
 have ee := w1.e
 have tb1 : ∀ κ : List V → Ans, ldnK E σ1 eb 1 4 κ = κ [.str nm, nv, rv, tv] := fun κ => (ldnK_is ee).trans rfl
 have cv : ∀ κ : V → H → Ans, callvK D (.fn f [] caps) [.ptr σ1.next 0] σ2 κ = κ (.tup []) σ3 := fun κ => by
  show callK (D f ([] ++ [.ptr σ1.next 0] ++ caps) σ2) κ = _
  rw [g3]; rfl
 have gd : ∀ κ : Env → H → Ans, gdrawK (drawW E D G152_0 H152_0 [(0, .ptr eb 0), (4, .ptr σ1.next 0)] σ3) κ = κ e' σ4 := fun κ => by rw [g4]; rfl
 show T152_0 E D (drawW E D) eb 0 (.fn f [] caps) σ = _
 unfold T152_0
 simp -implicitDefEqProofs only [↓rP, rS, ↓e1, ↓tb1, h1, h2, h3, ↓e2, ↓cv, ↓gd]
theorem eaddsq_F {k : Nat} (hk : k < nf) {j : Nat} (hj : (fd k).type = Int.ofNat j) {Xk : List Nat} (hV : SpVal (D 39) nT ty j (g k) Xk) {σ0 σ1 : H} {q17 q7 q16 bk eb1 w1 : Nat} {l : V} {v0 : Vc} (hv0 : v0.l = l) (ht0 : Tidy σ0) (T : Tb σ0 nT ty nv rv tv) (hr : Row σ0 6 nf l fun k => (g k).c)
  (a17 : Atc σ0 q17 (fd k).c) (a7 : Atc σ0 q7 v0.c) (a16 : Atc σ0 q16 [.sl bk 0 1 (.ex 1)]) (ak : Atc σ0 bk [.int .i64 (Int.ofNat k)]) (wk : Wk σ0 σ1 eb1 w1 .nils [.str nm, nv, rv, tv] []) :
  ∃ u' σ', F252 E D (drawW E D) N ([] ++ [.ptr eb1 0] ++ [.ptr q17 0, .ptr q7 0, .ptr q16 0]) σ1 = some (.tup [], σ') ∧ Pst σ1 w1 .nils σ' u' Xk := by
 obtain ⟨u2, σ2, g2, s2⟩ := hV σ0 σ1 eb1 w1 .nils [] nm nv rv tv ht0 T wk (by decide)
 refine ⟨u2, σ2, ?_, s2⟩
 have b17 := wk.f.at_ a17 ht0 (fun h => h)
 have b7 := wk.f.at_ a7 ht0 (fun h => h)
 have b16 := wk.f.at_ a16 ht0 (fun h => h)
 have bk' := wk.f.at_ ak ht0 (fun h => h)
 have ia : ∀ κ : Nat → Nat → Ans, iaddrSK 1 (.sl bk 0 1 (.ex 1)) (Int.ofNat 0) κ = κ bk 0 := fun κ => iaddrSK_lt (Nat.lt_succ_self 0)
 have rg : ∀ κ, iaddrSK 6 l (Int.ofNat k) (fun b o => ldnK E σ1 b o 6 κ) = κ (g k).c := fun κ => (hr.fr0 wk.f ht0).all hk κ
 unfold Fd.c at b17
 rw [hj] at b17
 unfold Vc.c at b7 rg g2
 rw [hv0] at b7
 show T252_0 E D (drawW E D) (.ptr eb1 0) (.ptr q17 0) (.ptr q7 0) (.ptr q16 0) σ1 = _
 unfold T252_0
 simp -implicitDefEqProofs only [↓rP, rS, ↓ldK_is b17, ↓ldK_is b7, ↓ldK_is b16, ↓ia, ↓ldK_is bk', ↓rg, (g k).oneB, (g k).oneL, (g k).oneM, ↓g2]
end
end
noncomputable section
def openB (X : List Nat) : List Nat := bitsOf 8 (packN X.length) ++ bitsO (pack X)
theorem openB_len {X : List Nat} (h : X.length ≤ 1000) : (openB X).length ≤ 1100 := by
 unfold openB
 rw [List.length_append, bitsOf_length, bitsO_length, pack_length]
 unfold packN; omega
def addsF (ab : Nat → Bool) (X : Nat → List Nat) : List Nat → List Nat
 | [] => []
 | k :: S => (if ab k = true then [] else openB (X k)) ++ addsF ab X S
def addsY (ab : Nat → Bool) (X : Nat → List Nat) (S : List Nat) : List Nat := bitsOf 7 (S.length - 1) ++ ((S.map fun k => bitB (!ab k)) ++ addsF ab X S)
def SpEAq (F : List V → H → Ans) (nT : Nat) (ty : Nat → Ty) (nf : Nat) (fd : Nat → Fd) (g : Nat → Vc) (ab : Nat → Bool) (X : Nat → List Nat) : Prop := ∀ {k : Nat} {σ0 σ1 : H} {q17 q7 q16 bk eb1 w1 : Nat} {v0 : Vc} {nm : BS} {nv rv tv : V}, k < nf → ab k = false → Tidy σ0 → Tb σ0 nT ty nv rv tv → Row σ0 6 nf v0.l (fun k => (g k).c) →
 Atc σ0 q17 (fd k).c → Atc σ0 q7 v0.c → Atc σ0 q16 [.sl bk 0 1 (.ex 1)] → Atc σ0 bk [.int .i64 (Int.ofNat k)] → Wk σ0 σ1 eb1 w1 .nils [.str nm, nv, rv, tv] [] →
 ∃ u' σ', F ([] ++ [.ptr eb1 0] ++ [.ptr q17 0, .ptr q7 0, .ptr q16 0]) σ1 = some (.tup [], σ') ∧ Pst σ1 w1 .nils σ' u' (X k)
section
variable {E : List (Nat × Blk)} {D : Den} {N : Nat} {nT : Nat} {ty : Nat → Ty} {nm : BS} {nv rv tv : V} {nf : Nat} {fd : Nat → Fd} {g : Nat → Vc} {ab : Nat → Bool} {X : Nat → List Nat} {S : List Nat} {x : Ty}
theorem adds_reg {σ : H} (ht : Tidy σ) {k eb q6 q7 q16 bk j : Nat} {sv bv : V} {len : Int} (hk : k < nf) (hs : SeqTy σ x nf fd) (a6 : Atc σ q6 x.c) (a16 : Atc σ q16 [.sl bk 0 1 (.ex 1)]) (ak : Atc σ bk [.int .i64 (Int.ofNat k)]) (hfb : V.beq (.agg (fd k).c) (.agg (fd k).c) = true) :
    ∃ e' σ', drawW E D G161_0 H161_0 [(0, .ptr eb 0), (4, bv), (6, .ptr q6 0), (7, .ptr q7 0), (15, .int .i64 (Int.ofNat j)), (16, .ptr q16 0), (69, sv), (70, .int .i64 len), (71, .int .i64 (Int.ofNat j))] σ = some (e', σ') ∧
      Go.Og.look e' 0 = some (.ptr eb 0) ∧ Go.Og.look e' 4 = some bv ∧ Go.Og.look e' 6 = some (.ptr q6 0) ∧ Go.Og.look e' 7 = some (.ptr q7 0) ∧ Go.Og.look e' 15 = some (.int .i64 (Int.ofNat j)) ∧ Go.Og.look e' 16 = some (.ptr q16 0) ∧ Go.Og.look e' 17 = some (.ptr (σ.next + 7) 0) ∧ Go.Og.look e' 69 = some sv ∧ Go.Og.look e' 70 = some (.int .i64 len) ∧ Go.Og.look e' 71 = some (.int .i64 (Int.ofNat j)) ∧
      Atc σ' (σ.next + 7) (fd k).c ∧ Fr Nowhere σ σ' := by
  obtain ⟨h0, _⟩ | ⟨fb, c, M, hfv, hM, hcel⟩ := hs.row.is
  · omega
  obtain ⟨hc1, hc2⟩ := hcel k hk
  have ax : Atc σ q6 [.int .i64 x.kind, x.tags, .bool x.has, .bool x.hasLow, .bool x.hasHigh, .bool x.conMore, .int .i64 x.low, .int .i64 x.high, x.items, .sl fb 0 nf c, .int .i64 x.root, .bool x.more, .int .i64 x.of_] := by
    have := a6
    unfold Ty.c at this
    rw [hfv] at this
    exact this
  obtain ⟨σa, ha⟩ : ∃ σa, σa = (⟨σ.next + 9, (σ.next + 7, .cells [.str ⟨0, 0⟩, .int .i64 (Int.ofNat 0), .bool false, .bool false, .int .i64 (Int.ofNat 0), .int .i64 (Int.ofNat 0), .nils, .nils, .int .i64 (Int.ofNat 0), .nils, .int .i64 (Int.ofNat 0)]) :: σ.bl⟩ : H) := ⟨_, rfl⟩
  have ta : Tidy σa := by
    rw [ha]
    intro b hb
    have hb : σ.next + 9 ≤ b := hb
    show lookF ((σ.next + 7, _) :: σ.bl) b = none
    rw [lookF_cons, if_neg (by simp only []; omega)]
    exact ht b (by omega)
  have a7 : Atc σa (σ.next + 7) [.str ⟨0, 0⟩, .int .i64 (Int.ofNat 0), .bool false, .bool false, .int .i64 (Int.ofNat 0), .int .i64 (Int.ofNat 0), .nils, .nils, .int .i64 (Int.ofNat 0), .nils, .int .i64 (Int.ofNat 0)] := by
    rw [ha]
    show lookF ((σ.next + 7, _) :: σ.bl) _ = _
    rw [lookF_cons, if_pos rfl]
  obtain ⟨σb, gs, fs, ab'⟩ := st_den (E := E) (D := D) (n := 11) (cs := (fd k).c) (x := .tmp 17) (y := .tmp 82) (e := [(17, .ptr (σ.next + 7) 0), (82, .agg (fd k).c)]) ta a7 rfl rfl (by
    unfold Fd.c; simp [allOne_cons, allOne_nil, one_int, one_bool, one_str, (fd k).one2, (fd k).one3, (fd k).one5])
  have ia : aopP (.iaddrS 1 (.tmp 78) (.con (.int .i64 (Int.ofNat 0)))) [(78, .sl bk 0 1 (.ex 1))] = some (.ptr bk 0) := rfl
  have ib : aopP (.iaddrS 11 (.tmp 77) (.tmp 80)) [(77, .sl fb 0 nf c), (80, .int .i64 (Int.ofNat k))] = some (.ptr fb (k * 11)) := by
    show (if (0 : Int) ≤ Int.ofNat k ∧ Int.ofNat k < nf then some (V.ptr fb (0 + (Int.ofNat k).toNat * 11)) else none) = _
    rw [if_pos ⟨Int.natCast_nonneg k, Int.ofNat_lt.2 hk⟩, Nat.zero_add]; rfl
  have go : Goes E D σ 9 0 Nowhere G161_0 H161_0 ⟨[(0, .ptr eb 0), (4, bv), (6, .ptr q6 0), (7, .ptr q7 0), (15, .int .i64 (Int.ofNat j)), (16, .ptr q16 0), (69, sv), (70, .int .i64 len), (71, .int .i64 (Int.ofNat j))], σ.next + 9, [σ.bl], [], 0, []⟩ _ σb :=
      go_p (.ptr q6 9) rfl rfl <|
      go_l (.sl fb 0 nf c) (go_start ht) rfl (old_ld1 (b := q6) (off := 9) rfl ax rfl ht (fun h => h) (beq_self _ rfl)) fun _ r1 =>
      go_l (.sl bk 0 1 (.ex 1)) r1 rfl (old_ld1 (b := q16) (off := 0) rfl a16 rfl ht (fun h => h) (beq_self _ rfl)) fun _ r2 =>
      go_p (.ptr bk 0) rfl ia <|
      go_l (.int .i64 (Int.ofNat k)) r2 rfl (old_ld1 (b := bk) (off := 0) rfl ak rfl ht (fun h => h) (beq_self _ rfl)) fun _ r3 =>
      go_p (.ptr fb (k * 11)) rfl ib <|
      go_l (.agg (fd k).c) r3 rfl (old_ldn (b := fb) (off := k * 11) rfl hM (by rw [Nat.ble_eq]; exact hc1) hc2 ht (fun h => h) hfb) fun _ r4 =>
      go_a (.ptr (σ.next + 7) 0) (.cells [.str ⟨0, 0⟩, .int .i64 (Int.ofNat 0), .bool false, .bool false, .int .i64 (Int.ofNat 0), .int .i64 (Int.ofNat 0), .nils, .nils, .int .i64 (Int.ofNat 0), .nils, .int .i64 (Int.ofNat 0)]) 128 r4 rfl (by decide) (by decide) rfl fun _ r5 =>
      go_kn .dead (by rw [← ha] at r5; exact r5) rfl (by decide) (S' := fun b => b = σ.next + 7) fs (fun b h e => by omega) (fun b e h1 _ => by rw [e, Nat.add_sub_cancel_left]; decide) gs fun _ _ _ r6 =>
      go_nil r6
  obtain ⟨d1, d2⟩ := go_draw (ops := G161_0) go
  exact ⟨_, σb, d1, rfl, rfl, rfl, rfl, rfl, rfl, rfl, rfl, rfl, rfl, ab', d2⟩
end
end
noncomputable section
section
variable {E : List (Nat × Blk)} {D D' : Den} {N : Nat} {nT : Nat} {ty : Nat → Ty} {nm : BS} {nv rv tv : V} {nf : Nat} {fd : Nat → Fd} {g : Nat → Vc} {ab : Nat → Bool} {X : Nat → List Nat} {S : List Nat} {x : Ty}
theorem adds_flags (hF : SpEFlag (D 71)) {W : DrawFn} {B : List Bool} {σ0 : H} {eb w q6 q7 : Nat} {cs : List V} {sv bv : V} (hB : B.length ≤ 1000) :
  ∀ (m n' j : Nat) (u : V) (σ : H) (L : List Nat), j + m = B.length → m < n' → Wk σ0 σ eb w u cs L → Bk σ w u bv B → L.length + m < 8000000 →
   ∃ u' σ', L161_8 E D W N n' eb 0 sv bv q6 0 q7 0 bv (Int.ofNat B.length) (Int.ofNat j) σ = J161_7 E D W N eb 0 sv bv q6 0 q7 0 σ' ∧ Pst σ w u σ' u' (L ++ (B.drop j).map bitB) := by
 intro m
 induction m with
 | zero =>
  intro n' j u σ L hj hn' wk kb hl
  obtain ⟨n', rfl⟩ : ∃ k, n' = k + 1 := ⟨n' - 1, by omega⟩
  refine ⟨u, σ, ?_, by rw [List.drop_eq_nil_of_le (by omega), List.map_nil, List.append_nil]; exact Pst.refl wk.pw wk.tidy⟩
  have k0 : ∀ K1 R, T161_8 E D W K1 R eb 0 sv bv q6 0 q7 0 bv (Int.ofNat B.length) (Int.ofNat j) σ = K1 eb 0 sv bv q6 0 q7 0 σ := by
   intro K1 R
   unfold T161_8
   rw [ltF_nat, decide_eq_false (by omega), condK_false]
  exact k0 _ _
 | succ m ih =>
  intro n' j u σ L hj hn' wk kb hl
  obtain ⟨n', rfl⟩ : ∃ k, n' = k + 1 := ⟨n' - 1, by omega⟩
  have hlt : j < B.length := by omega
  have d1 : decide (j < B.length) = true := decide_eq_true hlt
  have rd : ∀ κ, iaddrSK 1 bv (Int.ofNat j) (fun b o => ldK E σ b o κ) = κ (.bool B[j]) := fun κ => src_at kb.d.src (by unfold bls; rw [List.getElem?_map, List.getElem?_eq_getElem hlt]; rfl) κ
  obtain ⟨u2, σ2, g2, s2⟩ := hF σ eb w u L B[j] _ wk.e wk.pw wk.tidy (by omega)
  obtain ⟨u3, σ3, g3, s3⟩ := ih n' (j + 1) u2 σ2 _ (by omega) (by omega) (wk.step s2) (kb.step s2 wk.tidy) (by rw [List.length_append, List.length_singleton]; omega)
  refine ⟨u3, σ3, ?_, ?_⟩
  ·have k1 : ∀ K1 R, T161_8 E D W K1 R eb 0 sv bv q6 0 q7 0 bv (Int.ofNat B.length) (Int.ofNat j) σ = R eb 0 sv bv q6 0 q7 0 bv (Int.ofNat B.length) (Int.ofNat (j + 1)) σ2 := by
    intro K1 R
    unfold T161_8
    simp -implicitDefEqProofs only [↓rP, rS, rQ, decide_false, decide_true, Nat.reduceEqDiff, Nat.reduceLT, Nat.reduceLeDiff, d1, ↓rd, ↓g2, addF_nat (show j + 1 ≤ 9223372036854775807 by omega)]
   exact (k1 _ _).trans g3
  ·have := s2.trans s3
   rw [List.append_assoc] at this
   rw [List.drop_eq_getElem_cons hlt, List.map_cons]
   exact this
theorem adds_loop (hO : SpEOpen (D 152) D') (hQ : SpEAq (D' 252) nT ty nf fd g ab X) (hX : ∀ k, (X k).length ≤ 1000) (hX0 : ∀ k ∈ S, ab k = false → 0 < (X k).length) (hS : ∀ k ∈ S, k < nf) (hSl : S.length ≤ 64) (hg : ∀ k ∈ S, (fd k).group = Int.ofNat 0) (hfb : ∀ k, k < nf → V.beq (.agg (fd k).c) (.agg (fd k).c) = true)
  {σ0 : H} (ht0 : Tidy σ0) (T : Tb σ0 nT ty nv rv tv) (hs : SeqTy σ0 x nf fd) {v0 : Vc} (hr : Row σ0 6 nf v0.l fun k => (g k).c) {eb w q6 q7 : Nat} {sv bv : V} {bl : Nat → Nat} :
  ∀ (m n' j : Nat) (u : V) (σ : H) (L : List Nat), j + m = S.length → m < n' → Wk σ0 σ eb w u [.str nm, nv, rv, tv] L → Kp σ w u q6 x.c → Kp σ w u q7 v0.c → Sk σ w u sv S bl → Bk σ w u bv (S.map fun k => !ab k) → L.length + 1100 * m < 1000000 →
   ∃ u' σ', L161_10 E D (drawW E D) N n' eb 0 bv q6 0 q7 0 sv (Int.ofNat S.length) (Int.ofNat j) σ = J161_9 E D (drawW E D) N eb 0 q7 0 σ' ∧ Pst σ w u σ' u' (L ++ addsF ab X (S.drop j)) := by
 intro m
 induction m with
 | zero =>
  intro n' j u σ L hj hn' wk k6 k7 ks kb hl
  obtain ⟨n', rfl⟩ : ∃ k, n' = k + 1 := ⟨n' - 1, by omega⟩
  refine ⟨u, σ, ?_, by rw [List.drop_eq_nil_of_le (by omega), show addsF ab X [] = [] from rfl, List.append_nil]; exact Pst.refl wk.pw wk.tidy⟩
  have k0 : ∀ K1 K11, T161_10 E D (drawW E D) K1 K11 eb 0 bv q6 0 q7 0 sv (Int.ofNat S.length) (Int.ofNat j) σ = K1 eb 0 q7 0 σ := by
   intro K1 K11
   unfold T161_10
   rw [ltF_nat, decide_eq_false (by omega), condK_false]
  exact k0 _ _
 | succ m ih =>
  intro n' j u σ L hj hn' wk k6 k7 ks kb hl
  obtain ⟨n', rfl⟩ : ∃ k, n' = k + 1 := ⟨n' - 1, by omega⟩
  have ht := wk.tidy
  have hlt : j < S.length := by omega
  have hk : S[j]? = some S[j] := List.getElem?_eq_getElem hlt
  have hm' : S[j] ∈ S := List.getElem_mem hlt
  have hkn := hS _ hm'
  have d1 : decide (j < S.length) = true := decide_eq_true hlt
  have r1 : ∀ κ, iaddrSK 1 sv (Int.ofNat j) (fun b o => ldK E σ b o κ) = κ (.sl (bl j) 0 1 (.ex 1)) := fun κ => ks.s.rd hk κ
  obtain ⟨σ1, e1, f1, a1, n1⟩ := mk_new ht [.nils]
  obtain ⟨σ2, e2, f2, a2⟩ := mk_set f1.tidy a1 [.sl (bl j) 0 1 (.ex 1)]
  have f02 : Fr Nowhere σ σ2 := f1.trans f2 (fun b hb e => by omega)
  have w2 := wk.fr f02
  have k62 := k6.fr f02 ht
  have k72 := k7.fr f02 ht
  have ks2 := ks.fr f02 ht
  have kb2 := kb.fr f02 ht
  obtain ⟨e', σ3, g3, q0, q4, q6', q7', q15, q16, q17, q69, q70, q71, a17, f3⟩ := adds_reg (E := E) (D := D) (eb := eb) (q7 := q7) (j := j) (sv := sv) (bv := bv) (len := Int.ofNat S.length) w2.tidy hkn (hs.fr w2.f ht0) k62.a a2 (ks2.s.at_ j _ hk) (hfb _ hkn)
  have f03 := f02.trans f3 (fun _ _ h => h)
  have w3 := w2.fr f3
  have k63 := k62.fr f3 w2.tidy
  have k73 := k72.fr f3 w2.tidy
  have ks3 := ks2.fr f3 w2.tidy
  have kb3 := kb2.fr f3 w2.tidy
  have a16 := f3.at_ a2 w2.tidy (fun h => h)
  have rb : ∀ κ, iaddrSK 1 bv (Int.ofNat j) (fun b o => ldK E σ3 b o κ) = κ (.bool (!ab S[j])) := fun κ => src_at kb3.d.src (by unfold bls; rw [List.getElem?_map, List.getElem?_map, hk]; rfl) κ
  have st : ∀ κ : H → Ans, stK 1 σ.next 0 (.sl (bl j) 0 1 (.ex 1)) σ1 κ = κ σ2 := fun κ => by
   rw [stK_at a1 rfl]
   show κ (setF σ1 σ.next (.cells [.sl (bl j) 0 1 (.ex 1)])) = _
   rw [e2]
  have gd : ∀ κ : Env → H → Ans, gdrawK (drawW E D G161_0 H161_0 [(0, .ptr eb 0), (4, bv), (6, .ptr q6 0), (7, .ptr q7 0), (15, .int .i64 (Int.ofNat j)), (16, .ptr σ.next 0), (69, sv), (70, .int .i64 (Int.ofNat S.length)), (71, .int .i64 (Int.ofNat j))] σ2) κ = κ e' σ3 := fun κ => by rw [g3]; rfl
  have m0 : ∀ κ : V → Ans, getL e' 0 κ = κ (.ptr eb 0) := fun κ => getL_of q0 rfl
  have m4 : ∀ κ : V → Ans, getL e' 4 κ = κ bv := fun κ => getL_of q4 (live_of kb.d.one)
  have m6 : ∀ κ : V → Ans, getL e' 6 κ = κ (.ptr q6 0) := fun κ => getL_of q6' rfl
  have m7 : ∀ κ : V → Ans, getL e' 7 κ = κ (.ptr q7 0) := fun κ => getL_of q7' rfl
  have m15 : ∀ κ : V → Ans, getL e' 15 κ = κ (.int .i64 (Int.ofNat j)) := fun κ => getL_of q15 rfl
  have m16 : ∀ κ : V → Ans, getL e' 16 κ = κ (.ptr σ.next 0) := fun κ => getL_of q16 rfl
  have m17 : ∀ κ : V → Ans, getL e' 17 κ = κ (.ptr (σ2.next + 7) 0) := fun κ => getL_of q17 rfl
  have m69 : ∀ κ : V → Ans, getL e' 69 κ = κ sv := fun κ => getL_of q69 (live_of ks.s.one)
  have m70 : ∀ κ : V → Ans, getL e' 70 κ = κ (.int .i64 (Int.ofNat S.length)) := fun κ => getL_of q70 rfl
  have m71 : ∀ κ : V → Ans, getL e' 71 κ = κ (.int .i64 (Int.ofNat j)) := fun κ => getL_of q71 rfl
  obtain ⟨u4, σ4, g4, s4⟩ : ∃ u4 σ4, (∀ K1 K11, T161_10 E D (drawW E D) K1 K11 eb 0 bv q6 0 q7 0 sv (Int.ofNat S.length) (Int.ofNat j) σ = K11 eb 0 bv q6 0 q7 0 sv (Int.ofNat S.length) (Int.ofNat j) σ4) ∧ Pst σ w u σ4 u4 (L ++ (if ab S[j] = true then [] else openB (X S[j]))) := by
   cases ha : ab S[j] with
   | true =>
    rw [ha] at rb
    refine ⟨u, σ3, fun K1 K11 => ?_, by rw [if_pos rfl, List.append_nil]; exact Pst.behind f03 (Pst.refl w3.pw w3.tidy)⟩
    unfold T161_10
    simp -implicitDefEqProofs only [↓rP, rS, rQ, decide_false, decide_true, Nat.reduceEqDiff, Nat.reduceLT, Nat.reduceLeDiff, d1, ↓r1, ↓e1, ↓st, ↓gd, ↓m0, ↓m4, ↓m6, ↓m7, ↓m15, ↓m16, ↓m17, ↓m69, ↓m70, ↓m71, ↓rb]
   | false =>
    rw [ha] at rb
    obtain ⟨u4, σ4, g4, s4⟩ := hO (f := 252) (caps := [.ptr (σ2.next + 7) 0, .ptr q7 0, .ptr σ.next 0]) (X := X S[j]) w3 T.n1 T.r1 T.t1 (by omega) (hX0 _ hm' ha) (hX _) fun σ9 eb1 w1 wk9 =>
     hQ hkn ha w3.tidy (T.fr w3.f ht0) (hr.fr0 w3.f ht0) a17 k73.a a16 (ks3.s.at_ j _ hk) wk9
    have a17' := a17
    unfold Fd.c at a17'
    rw [hg _ hm'] at a17'
    refine ⟨u4, σ4, fun K1 K11 => ?_, by rw [if_neg (show ¬ false = true by decide)]; exact Pst.behind f03 s4⟩
    unfold T161_10
    simp -implicitDefEqProofs only [↓rP, rS, rQ, decide_false, decide_true, Nat.reduceEqDiff, Nat.reduceLT, Nat.reduceLeDiff, d1, ↓r1, ↓e1, ↓st, ↓gd, ↓m0, ↓m4, ↓m6, ↓m7, ↓m15, ↓m16, ↓m17, ↓m69, ↓m70, ↓m71, ↓rb, ↓ldK_is a17', Nat.lt_irrefl, ↓g4]
  have hx := openB_len (hX S[j])
  have hlen : (L ++ (if ab S[j] = true then [] else openB (X S[j]))).length ≤ L.length + 1100 := by
   rw [List.length_append]; split
   ·rw [List.length_nil]; omega
   ·omega
  obtain ⟨u5, σ5, g5, s5⟩ := ih n' (j + 1) u4 σ4 _ (by omega) (by omega) (wk.step s4) (k6.step s4 ht) (k7.step s4 ht) (ks.step s4 ht) (kb.step s4 ht) (by omega)
  refine ⟨u5, σ5, ?_, ?_⟩
  ·refine (g4 _ _).trans ?_
   show L161_10 E D (drawW E D) N n' eb 0 bv q6 0 q7 0 sv (Int.ofNat S.length) (addF .i64 (Int.ofNat j) (Int.ofNat 1)) σ4 = _
   rw [addF_nat (by omega)]
   exact g5
  ·have := s4.trans s5
   rw [List.append_assoc] at this
   rw [List.drop_eq_getElem_cons hlt, addsF]
   exact this
theorem eadds_F (hB : SpWWBits (D 139)) (hF : SpEFlag (D 71)) (hO : SpEOpen (D 152) D') (hQ : SpEAq (D' 252) nT ty nf fd g ab X) (hX : ∀ k, (X k).length ≤ 1000) (hX0 : ∀ k ∈ S, ab k = false → 0 < (X k).length) (hS : ∀ k ∈ S, k < nf) (hSl : S.length ≤ 64) (hS0 : 0 < S.length) (hg : ∀ k ∈ S, (fd k).group = Int.ofNat 0) (hfb : ∀ k, k < nf → V.beq (.agg (fd k).c) (.agg (fd k).c) = true)
  {v0 : Vc} (hv0 : v0.m = .nils) (hN : 1001 < N) : SpEAdds (F161 E D (drawW E D) N) x v0 S (S.map fun k => !ab k) g nT ty nf fd (addsY ab X S) := by
 intro σ0 σ eb w u sv bv bl L nm nv rv tv ht0 T hs hr wk ks kb hl _ _ _
 obtain ⟨N, rfl⟩ : ∃ k, N = k + 1 := ⟨N - 1, by omega⟩
 obtain ⟨σ1, e1, f1, a1, n1⟩ := mk_new wk.tidy x.c
 obtain ⟨σ2, e2, f2, a2, n2⟩ := mk_new f1.tidy v0.c
 have f02 := f1.trans f2 (fun _ _ h => h)
 have l1 := f1.le
 have w2 := wk.fr f02
 have a12 := f2.at_ a1 f1.tidy (fun h => h)
 have k6 : Kp σ2 w u σ.next x.c := Kp.new wk.pw wk.tidy (Nat.le_refl _) f2.tidy a12
 have k7 : Kp σ2 w u σ1.next v0.c := Kp.new wk.pw wk.tidy l1 f2.tidy a2
 have ks2 := ks.fr f02 wk.tidy
 have kb2 := kb.fr f02 wk.tidy
 obtain ⟨u3, σ3, g3, s3⟩ := hB σ2 w u L (S.length - 1) 7 w2.pw w2.tidy (by omega) (by omega) (by decide)
 have w3 := w2.step s3
 have len3 : (L ++ bitsOf 7 (S.length - 1)).length = L.length + 7 := by rw [List.length_append, bitsOf_length]
 obtain ⟨u4, σ4, g4, s4⟩ := adds_flags (N := N + 1) (E := E) (W := drawW E D) (q6 := σ.next) (q7 := σ1.next) (sv := sv) hF (B := S.map fun k => !ab k) (by rw [List.length_map]; omega) (S.map fun k => !ab k).length (N + 1) 0 u3 σ3 _ (by omega) (by rw [List.length_map]; omega) w3 (kb2.step s3 w2.tidy) (by rw [List.length_map]; omega)
 have w4 := w3.step s4
 rw [List.drop_zero, List.map_map] at s4
 have s34 := s3.trans s4
 have w4' := w2.step s34
 have len4 : ((L ++ bitsOf 7 (S.length - 1)) ++ (S.map (bitB ∘ fun k => !ab k))).length = L.length + 7 + S.length := by rw [List.length_append, len3, List.length_map]
 obtain ⟨u5, σ5, g5, s5⟩ := adds_loop (N := N + 1) (E := E) (D := D) hO hQ hX hX0 hS hSl hg hfb ht0 T hs hr S.length (N + 1) 0 u4 σ4 _ (by omega) (by omega) w4' (k6.step s34 w2.tidy) (k7.step s34 w2.tidy) (ks2.step s34 w2.tidy) (kb2.step s34 w2.tidy) (by omega)
 rw [List.drop_zero] at s5
 have k75 := ((k7.step s34 w2.tidy).step s5 w4.tidy).a
 refine ⟨u5, σ5, ?_, ?_⟩
 ·have a2' := a2
  unfold Ty.c at e1
  unfold Vc.c at e2 a2' k75
  rw [hv0] at e2 a2' k75
  have lb : ∀ κ : Nat → Ans, slenK bv κ = κ S.length := fun κ => by
   have h := kb.d.slen (κ := κ)
   rwa [List.length_map] at h
  have ls : ∀ κ : Nat → Ans, slenK sv κ = κ S.length := fun κ => ks.s.row.len.2 κ
  have d64 : decide (S.length ≤ 64) = true := decide_eq_true hSl
  have en : wrapF .u64 (subF .i64 (Int.ofNat S.length) (Int.ofNat 1)) = Int.ofNat (S.length - 1) := by
   rw [subF_nat (by omega) (by omega), wrapF_nat (by rw [maxN_u64]; omega)]
  have ee := w2.e
  have ee' : ∀ κ : V → Ans, ldK E σ2 eb 0 κ = κ (.ptr w 0) := fun κ => (ldK_is ee).trans rfl
  show T161_0 E D (drawW E D) (L161_2 E D (drawW E D) (N + 1) (N + 1)) eb 0 x.kind x.tags x.has x.hasLow x.hasHigh x.conMore x.low x.high x.items x.fields x.root x.more x.of_ v0.k v0.n v0.b v0.l v0.r v0.m sv bv σ = _
  rw [hv0]
  have k0 : ∀ K2, T161_0 E D (drawW E D) K2 eb 0 x.kind x.tags x.has x.hasLow x.hasHigh x.conMore x.low x.high x.items x.fields x.root x.more x.of_ v0.k v0.n v0.b v0.l v0.r .nils sv bv σ = K2 eb 0 sv bv σ.next 0 σ1.next 0 .nils (Int.ofNat 0) (Int.ofNat 0) σ2 := by
   intro K2
   unfold T161_0
   simp -implicitDefEqProofs only [↓rP, rS, x.oneT, x.oneI, x.oneF, v0.oneB, v0.oneL, v0.oneM, ↓e1, ↓e2, ↓ldK_is a2']
  rw [k0]
  show T161_2 E D (drawW E D) (J161_1 E D (drawW E D) (N + 1)) _ eb 0 sv bv σ.next 0 σ1.next 0 .nils (Int.ofNat 0) (Int.ofNat 0) σ2 = _
  have k2 : ∀ K1 K5, T161_2 E D (drawW E D) K1 K5 eb 0 sv bv σ.next 0 σ1.next 0 .nils (Int.ofNat 0) (Int.ofNat 0) σ2 = K1 eb 0 sv bv σ.next 0 σ1.next 0 σ2 := by
   intro K1 K5
   unfold T161_2
   simp -implicitDefEqProofs only [↓rP, rS, rQ, decide_false, decide_true, Nat.reduceEqDiff, Nat.reduceLT, Nat.reduceLeDiff, Nat.lt_irrefl]
  rw [k2]
  show T161_1 E D (drawW E D) (T161_6 E D (drawW E D) (L161_8 E D (drawW E D) (N + 1) (N + 1))) eb 0 sv bv σ.next 0 σ1.next 0 σ2 = _
  have k1 : ∀ K6, T161_1 E D (drawW E D) K6 eb 0 sv bv σ.next 0 σ1.next 0 σ2 = K6 eb 0 sv bv σ.next 0 σ1.next 0 σ3 := by
   intro K6
   unfold T161_1
   simp -implicitDefEqProofs only [↓rP, rS, rQ, decide_false, decide_true, Nat.reduceEqDiff, Nat.reduceLT, Nat.reduceLeDiff, ↓lb, d64, ↓ee', en, ↓g3]
  rw [k1]
  have k6' : ∀ K8, T161_6 E D (drawW E D) K8 eb 0 sv bv σ.next 0 σ1.next 0 σ3 = K8 eb 0 sv bv σ.next 0 σ1.next 0 bv (Int.ofNat S.length) (Int.ofNat 0) σ3 := by
   intro K8
   unfold T161_6
   exact lb _
  rw [k6']
  rw [List.length_map] at g4
  rw [g4]
  show T161_7 E D (drawW E D) (L161_10 E D (drawW E D) (N + 1) (N + 1)) eb 0 sv bv σ.next 0 σ1.next 0 σ4 = _
  have k7' : ∀ K10, T161_7 E D (drawW E D) K10 eb 0 sv bv σ.next 0 σ1.next 0 σ4 = K10 eb 0 bv σ.next 0 σ1.next 0 sv (Int.ofNat S.length) (Int.ofNat 0) σ4 := by
   intro K10
   unfold T161_7
   exact ls _
  rw [k7', g5]
  show T161_9 E D (drawW E D) (T161_12 E D (drawW E D) (L161_12 E D (drawW E D) (N + 1) N)) eb 0 σ1.next 0 σ5 = _
  have k9 : ∀ R, T161_9 E D (drawW E D) (T161_12 E D (drawW E D) R) eb 0 σ1.next 0 σ5 = some (.tup [], σ5) := by
   intro R
   unfold T161_9 T161_12
   simp -implicitDefEqProofs only [↓rP, rS, rQ, decide_false, decide_true, Nat.reduceEqDiff, Nat.reduceLT, Nat.reduceLeDiff, ↓ldK_is k75, Nat.lt_irrefl]
  exact k9 _
 ·have := Pst.behind f02 (s34.trans s5)
  unfold addsY
  rw [show (S.map fun k => bitB (!ab k)) = S.map (bitB ∘ fun k => !ab k) from rfl, ← List.append_assoc, ← List.append_assoc]
  exact this
end
end
noncomputable section
section
variable {E : List (Nat × Blk)} {D : Den} {W : DrawFn} {N : Nat} {nT : Nat} {ty : Nat → Ty} {nm : BS} {nv rv tv : V}
theorem vseq_e {i : Nat} (hi : i < nT) (hk : (ty i).kind = Int.ofNat 7) {l : V} {hl : l.one = true} {r : Int} {mv : V} {hm : mv.one = true} {Z : List Nat} {σ0 σ : H} {eb w : Nat} {u : V} {L : List Nat} (ht0 : Tidy σ0) (T : Tb σ0 nT ty nv rv tv) (wk : Wk σ0 σ eb w u [.str nm, nv, rv, tv] L)
  (hF : ∀ σ1, Wk σ0 σ1 eb w u [.str nm, nv, rv, tv] L → ∃ u' σ', D 84 [.ptr eb 0, .int .i64 (Int.ofNat i), .agg (Vc.sq l hl r mv hm).c] σ1 = some (.tup [], σ') ∧ Pst σ1 w u σ' u' (L ++ Z)) :
  ∃ u' σ', F39 E D W N [.ptr eb 0, .int .i64 (Int.ofNat i), .agg (Vc.sq l hl r mv hm).c] σ = some (.tup [], σ') ∧ Pst σ w u σ' u' (L ++ Z) := by
 obtain ⟨σ1, e1, f1, a1, n1⟩ := mk_new wk.tidy [.ptr eb 0]
 obtain ⟨σ2, e2, f2, a2, n2⟩ := mk_new f1.tidy (Vc.sq l hl r mv hm).c
 obtain ⟨σ3, e3, f3, a3, n3⟩ := mk_new f2.tidy [.int .i64 (Int.ofNat 0), .nils, .bool false, .bool false, .bool false, .bool false, .int .i64 (Int.ofNat 0), .int .i64 (Int.ofNat 0), .nils, .nils, .int .i64 (Int.ofNat 0), .bool false, .int .i64 (Int.ofNat 0)]
 obtain ⟨σ4, e4, f4, a4⟩ := mk_set f3.tidy a3 (ty i).c
 have f02 := f1.trans f2 (fun _ _ h => h)
 have l2 := f02.le
 have f24 : Fr Nowhere σ2 σ4 := f3.trans f4 (fun b hb e => by omega)
 have f04 := f02.trans f24 (fun _ _ h => h)
 have k2 := wk.fr f02
 have k4 := wk.fr f04
 obtain ⟨u5, σ5, g5, s5⟩ := hF σ4 k4
 refine ⟨u5, σ5, ?_, Pst.behind f04 s5⟩
 have a12 := f2.at_ a1 f1.tidy (fun h => h)
 have a14 := f24.at_ a12 f2.tidy (fun h => h)
 have a24 := f24.at_ a2 f2.tidy (fun h => h)
 have rd : ∀ κ, iaddrSK 13 tv (Int.ofNat i) (fun b o => ldnK E σ2 b o 13 κ) = κ (ty i).c := fun κ => (T.row.fr0 k2.f ht0).all hi κ
 have st : ∀ κ : H → Ans, stK 13 σ2.next 0 (.agg (ty i).c) σ3 κ = κ σ4 := fun κ => by
  rw [stK_at a3 (by unfold Ty.c; simp [cells_agg, allOne_cons, allOne_nil, one_int, one_bool, (ty i).oneT, (ty i).oneI, (ty i).oneF])]
  show κ (setF σ3 σ2.next (.cells (ty i).c)) = _
  rw [e4]
 have ee := k2.e
 unfold Ty.c at rd st a4
 unfold Vc.sq Vc.c at e2 a2 a24 g5
 show T39_0 E D W (T39_1 E D W) (.ptr eb 0) (Int.ofNat i) (Int.ofNat 7) (Int.ofNat 0) .nils l r mv σ = _
 unfold T39_0 T39_1
 simp -implicitDefEqProofs only [↓rP, rS, rQ, decide_false, decide_true, Nat.reduceEqDiff, Nat.reduceLT, Nat.reduceLeDiff, hl, hm, ↓e1, ↓e2, ↓ldK_is a12, ↓ldK_is ee, ↓rd, ↓e3, ↓st, ↓ldK_is a4, ↓ldnK_is a4, hk, ↓ldK_is a14, ↓ldnK_is a24, ↓g5]
theorem enc_F {i : Nat} {v : Vc} {Z : List Nat} {σ : H} (ht : Tidy σ) (h1 : nv.one = true) (h2 : rv.one = true) (h3 : tv.one = true) (hZ : 0 < Z.length) (hZ' : Z.length ≤ 500000)
  (hFi : ∀ σ1, Tidy σ1 → Fr Nowhere σ σ1 → ∃ σ', D 36 [.agg [.str nm, nv, rv, tv], .int .i64 (Int.ofNat i), .agg v.c] σ1 = some (.bool true, σ') ∧ Fr Nowhere σ1 σ')
  (hRo : ∀ σ1, Tidy σ1 → Fr Nowhere σ σ1 → ∃ σ', D 37 [.agg [.str nm, nv, rv, tv]] σ1 = some (.bool true, σ') ∧ Fr Nowhere σ1 σ')
  (hRu : ∀ σ1, Tidy σ1 → Fr Nowhere σ σ1 → ∃ σ', D 38 [.agg v.c, .int .i64 (Int.ofNat 2)] σ1 = some (.bool true, σ') ∧ Fr Nowhere σ1 σ')
  (hV : ∀ (σ0 σ1 : H) (eb w : Nat), Tidy σ0 → Fr Nowhere σ σ0 → Wk σ0 σ1 eb w .nils [.str nm, nv, rv, tv] [] → ∃ u' σ', D 39 [.ptr eb 0, .int .i64 (Int.ofNat i), .agg v.c] σ1 = some (.tup [], σ') ∧ Pst σ1 w .nils σ' u' Z)
  (hB : SpWBytes (D 40)) :
  ∃ b σ', F15 E D W N [.agg [.str nm, nv, rv, tv], .int .i64 (Int.ofNat i), .agg v.c] σ = some (.tup [b, .int .i64 (Int.ofNat 0)], σ') ∧ Nb σ σ' b (nI (pack Z)) ∧ Fr Nowhere σ σ' := by
 obtain ⟨σ1, e1, f1, a1, n1⟩ := mk_new ht [.str nm, nv, rv, tv]
 obtain ⟨σ2, e2, f2, a2, n2⟩ := mk_new f1.tidy v.c
 have f02 := f1.trans f2 (fun _ _ h => h)
 obtain ⟨σ3, g3, f3⟩ := hFi σ2 f02.tidy f02
 have f03 := f02.trans f3 (fun _ _ h => h)
 obtain ⟨σ4, g4, f4⟩ := hRo σ3 f03.tidy f03
 have f04 := f03.trans f4 (fun _ _ h => h)
 obtain ⟨σ5, g5, f5⟩ := hRu σ4 f04.tidy f04
 have f05 := f04.trans f5 (fun _ _ h => h)
 obtain ⟨σ6, e6, f6, a6, n6⟩ := mk_new f05.tidy [.nils, .int .i64 (Int.ofNat 0)]
 obtain ⟨σ7, e7, f7, a7, n7⟩ := mk_new f6.tidy [.ptr σ5.next 0, .str nm, nv, rv, tv]
 have f57 := f6.trans f7 (fun _ _ h => h)
 have l6 := f6.le
 have a67 := f7.at_ a6 f6.tidy (fun h => h)
 have p7 : Pw σ7 σ5.next .nils [] := ⟨a67, Dst.nil σ7 1, fun h => h.elim, fun b hb => by cases hb⟩
 have k7 : Wk σ5 σ7 σ6.next σ5.next .nils [.str nm, nv, rv, tv] [] := ⟨p7, f57, fun b hb => by
  rcases hb with hb | hb
  ·exact Nat.le_of_eq hb.symm
  ·exact hb.elim, a7, ⟨a7.lt f7.tidy, by omega, fun h => h.elim⟩⟩
 obtain ⟨u8, σ8, g8, s8⟩ := hV σ5 σ7 σ6.next σ5.next f05.tidy f05 k7
 have k8 := k7.step s8
 obtain ⟨b, σ9, g9, n9, f9⟩ := hB σ8 σ5.next u8 Z k8.pw k8.tidy (by omega) hZ
 have l5 := f05.le
 have l58 := k8.f.le
 refine ⟨b, σ9, ?_, n9.mono (by omega), (f05.trans k8.f (fun _ _ h => h)).trans f9 (fun _ _ h => h)⟩
 have a12 := f2.at_ a1 f1.tidy (fun h => h)
 have a13 := f3.at_ a12 f02.tidy (fun h => h)
 have a23 := f3.at_ a2 f02.tidy (fun h => h)
 have a24 := f4.at_ a23 f03.tidy (fun h => h)
 have a14 := f4.at_ a13 f03.tidy (fun h => h)
 have a15 := f5.at_ a14 f04.tidy (fun h => h)
 have a16 := f6.at_ a15 f05.tidy (fun h => h)
 have a25 := f5.at_ a24 f04.tidy (fun h => h)
 have a27 := f57.at_ a25 f05.tidy (fun h => h)
 have ee : ∀ κ : V → Ans, ldK E σ8 σ6.next 0 κ = κ (.ptr σ5.next 0) := k8.enc
 have lb : ∀ κ : Nat → Ans, slenK b κ = κ (packN Z.length) := fun κ => by rw [n9.by_.slen, nI_length, pack_length]
 have d7 : decide (70000 < packN Z.length) = false := decide_eq_false (by unfold packN; omega)
 unfold Vc.c at e2 a12 a2 a23 a24 a25 a27 g3 g5 g8
 show T15_0 E D W nm nv rv tv (Int.ofNat i) v.k v.n v.b v.l v.r v.m σ = _
 unfold T15_0
 simp -implicitDefEqProofs only [↓rP, rS, rQ, decide_false, decide_true, Nat.reduceEqDiff, Nat.reduceLT, Nat.reduceLeDiff, h1, h2, h3, v.oneB, v.oneL, v.oneM, ↓e1, ↓ldnK_is a12, ↓e2, ↓ldnK_is a2, ↓g3, ↓ldnK_is a13, ↓g4, ↓ldnK_is a24, ↓g5, ↓e6, ↓ldnK_is a16, ↓e7, ↓ldnK_is a27, ↓g8, ↓ee, ↓g9, ↓rtOne_of n9.1.one, ↓lb, d7]
end
end
set_option maxHeartbeats 0
noncomputable section
def i6 (n : Nat) : V := .int .i64 (Int.ofNat n)
def bT : V := .bool true
def bF : V := .bool false
def bl3 : List (Nat × Blk) := [(322, .cells [.str ⟨1, 65⟩]),
 (339, .cells [i6 0, i6 16]),
 (371, .cells [i6 2, i6 0]),
 (392, .cells [i6 2, i6 1]),
 (411, .cells [i6 7, .sl 339 0 1 (.ex 1), bF, bF, bF, bF, i6 0, i6 0, .nils, .sl 415 0 3 (.op 11), i6 3, bF, i6 0, i6 2, .sl 371 0 1 (.ex 1), bT, bT, bT, bF, i6 0, i6 7, .nils, .nils, i6 0, bF, i6 0, i6 2, .sl 392 0 1 (.ex 1), bT, bT, bT, bF, i6 0, i6 7, .nils, .nils, i6 0, bF, i6 0, i6 2, .sl 413 0 1 (.ex 1), bT, bT, bT, bF, i6 0, i6 7, .nils, .nils, i6 0, bF, i6 0]),
 (413, .cells [i6 2, i6 2]),
 (415, .cells [.str ⟨1, 97⟩, i6 1, bT, bF, i6 0, i6 0, .nils, .nils, i6 0, .nils, i6 0, .str ⟨1, 98⟩, i6 2, bF, bF, i6 0, i6 0, .nils, .nils, i6 0, .nils, i6 0, .str ⟨1, 99⟩, i6 3, bT, bF, i6 0, i6 0, .nils, .nils, i6 0, .nils, i6 0]),
 (491, .cells [i6 0])]
def bl5 : List (Nat × Blk) := [(428, .cells [.str ⟨1, 65⟩]),
 (445, .cells [i6 0, i6 16]),
 (477, .cells [i6 2, i6 0]),
 (498, .cells [i6 2, i6 1]),
 (519, .cells [i6 2, i6 2]),
 (540, .cells [i6 2, i6 3]),
 (559, .cells [i6 7, .sl 445 0 1 (.ex 1), bF, bF, bF, bF, i6 0, i6 0, .nils, .sl 563 0 5 (.op 11), i6 3, bT, i6 0, i6 2, .sl 477 0 1 (.ex 1), bT, bT, bT, bF, i6 0, i6 7, .nils, .nils, i6 0, bF, i6 0, i6 2, .sl 498 0 1 (.ex 1), bT, bT, bT, bF, i6 0, i6 7, .nils, .nils, i6 0, bF, i6 0, i6 2, .sl 519 0 1 (.ex 1), bT, bT, bT, bF, i6 0, i6 7, .nils, .nils, i6 0, bF, i6 0, i6 2, .sl 540 0 1 (.ex 1), bT, bT, bT, bF, i6 0, i6 7, .nils, .nils, i6 0, bF, i6 0, i6 2, .sl 561 0 1 (.ex 1), bT, bT, bT, bF, i6 0, i6 7, .nils, .nils, i6 0, bF, i6 0]),
 (561, .cells [i6 2, i6 4]),
 (563, .cells [.str ⟨1, 97⟩, i6 1, bT, bF, i6 0, i6 0, .nils, .nils, i6 0, .nils, i6 0, .str ⟨1, 98⟩, i6 2, bF, bF, i6 0, i6 0, .nils, .nils, i6 0, .nils, i6 0, .str ⟨1, 99⟩, i6 3, bT, bF, i6 0, i6 0, .nils, .nils, i6 0, .nils, i6 0, .str ⟨1, 100⟩, i6 4, bF, bF, i6 0, i6 0, .nils, .nils, i6 0, .nils, i6 0, .str ⟨1, 101⟩, i6 5, bF, bF, i6 0, i6 0, .nils, .nils, i6 0, .nils, i6 0]),
 (799, .cells [i6 0])]
def eRo3 : Few := ⟨504, [.agg [.str ⟨1, 77⟩, .sl 322 0 1 (.op 1), .sl 491 0 1 (.op 1), .sl 411 0 4 (.op 13)]],
 bl3,
 bT, 509,
 bl3⟩
theorem eRo3_right : eRo3.right 2 ((DT [] 100000 60) 37) = true := by kernel_rfl
theorem eRo3_shape : eRo3.shape = true := by kernel_rfl
def eOF3 : Few := ⟨504, [.agg [.str ⟨1, 77⟩, .sl 322 0 1 (.op 1), .sl 491 0 1 (.op 1), .sl 411 0 4 (.op 13)], i6 0],
 bl3,
 .sl 512 0 3 (.op 1), 513,
 (bl3 ++ [(512, .cells [i6 0, i6 1, i6 2])])⟩
theorem eOF3_right : eOF3.right 2 ((DT [] 100000 60) 154) = true := by kernel_rfl
theorem eOF3_shape : eOF3.shape = true := by kernel_rfl
def eOS3 : Few := ⟨504, [.agg [.str ⟨1, 77⟩, .sl 322 0 1 (.op 1), .sl 491 0 1 (.op 1), .sl 411 0 4 (.op 13)], i6 0],
 bl3,
 .nils, 506,
 bl3⟩
theorem eOS3_right : eOS3.right 2 ((DT [] 100000 60) 155) = true := by kernel_rfl
theorem eOS3_shape : eOS3.shape = true := by kernel_rfl
def eRo5 : Few := ⟨812, [.agg [.str ⟨1, 77⟩, .sl 428 0 1 (.op 1), .sl 799 0 1 (.op 1), .sl 559 0 6 (.op 13)]],
 bl5,
 bT, 819,
 bl5⟩
theorem eRo5_right : eRo5.right 2 ((DT [] 100000 60) 37) = true := by kernel_rfl
theorem eRo5_shape : eRo5.shape = true := by kernel_rfl
def eOF5 : Few := ⟨812, [.agg [.str ⟨1, 77⟩, .sl 428 0 1 (.op 1), .sl 799 0 1 (.op 1), .sl 559 0 6 (.op 13)], i6 0],
 bl5,
 .sl 824 0 5 (.op 1), 825,
 (bl5 ++ [(824, .cells [i6 0, i6 1, i6 2, i6 3, i6 4])])⟩
theorem eOF5_right : eOF5.right 2 ((DT [] 100000 60) 154) = true := by kernel_rfl
theorem eOF5_shape : eOF5.shape = true := by kernel_rfl
def eOS5 : Few := ⟨812, [.agg [.str ⟨1, 77⟩, .sl 428 0 1 (.op 1), .sl 799 0 1 (.op 1), .sl 559 0 6 (.op 13)], i6 0],
 bl5,
 .sl 823 0 2 (.op 1), 824,
 (bl5 ++ [(818, .cells [i6 3]),
 (821, .cells [i6 4]),
 (823, .cells [.sl 818 0 1 (.ex 1), .sl 821 0 1 (.ex 1)])])⟩
theorem eOS5_right : eOS5.right 2 ((DT [] 100000 60) 155) = true := by kernel_rfl
theorem eOS5_shape : eOS5.shape = true := by kernel_rfl
def eSp : Few := ⟨100, [.agg [bT, bT, bT, bF, i6 0, i6 7]],
 [],
 .tup [.int .u64 (Int.ofNat 7), bT], 104,
 []⟩
theorem eSp_right : eSp.right 2 ((DT [] 100000 60) 140) = true := by kernel_rfl
theorem eSp_shape : eSp.shape = true := by kernel_rfl
def eWd : Few := ⟨100, [.int .u64 (Int.ofNat 7)],
 [],
 i6 3, 100,
 []⟩
theorem eWd_right : eWd.right 2 ((DT [] 100000 60) 237) = true := by kernel_rfl
theorem eWd_shape : eWd.shape = true := by kernel_rfl
end
noncomputable section
def t0_1 : BS := ⟨192, 643117888588701396025003869779306744469613934172426038919487355322765521252323431706996195152834599746805628761204982138436596604189638348365038053687873031581300231119407504313712756049959687215918956622085215963262331515685271861730913240378031482283314549377824335134877620328057620065332819954424028938557438425457398796659690222896597671471716045783536400765388268954106658044027258964431837620841113951179915368691440539534041377244420665928985860492238925⟩
def cTok : Con := ⟨[.str t0_1],
 .tup [.sl 296 0 71 (.op 3), i6 0, i6 0],
 [(296, .cells [i6 1, .str ⟨1, 77⟩, i6 0, i6 5, .str ⟨11, 100710650190388740279911748⟩, i6 2, i6 5, .str ⟨8, 6073459554577829193⟩, i6 14, i6 5, .str ⟨4, 1397178708⟩, i6 23, i6 6, .str ⟨3, 4012602⟩, i6 28, i6 5, .str ⟨5, 336236856642⟩, i6 32, i6 1, .str ⟨1, 65⟩, i6 38, i6 6, .str ⟨3, 4012602⟩, i6 40, i6 5, .str ⟨8, 4990918871747741011⟩, i6 44, i6 6, .str ⟨1, 123⟩, i6 53, i6 2, .str ⟨1, 97⟩, i6 55, i6 6, .str ⟨1, 91⟩, i6 57, i6 3, .str ⟨1, 48⟩, i6 58, i6 6, .str ⟨1, 93⟩, i6 59, i6 5, .str ⟨7, 23157120498421321⟩, i6 61, i6 6, .str ⟨1, 40⟩, i6 69, i6 3, .str ⟨1, 48⟩, i6 70, i6 6, .str ⟨2, 11822⟩, i6 71, i6 3, .str ⟨1, 55⟩, i6 73, i6 6, .str ⟨1, 41⟩, i6 74, i6 5, .str ⟨8, 5494759122808361039⟩, i6 76, i6 6, .str ⟨1, 44⟩, i6 84, i6 2, .str ⟨1, 98⟩, i6 86, i6 6, .str ⟨1, 91⟩, i6 88, i6 3, .str ⟨1, 49⟩, i6 89, i6 6, .str ⟨1, 93⟩, i6 90, i6 5, .str ⟨7, 23157120498421321⟩, i6 92, i6 6, .str ⟨1, 40⟩, i6 100, i6 3, .str ⟨1, 48⟩, i6 101, i6 6, .str ⟨2, 11822⟩, i6 102, i6 3, .str ⟨1, 55⟩, i6 104, i6 6, .str ⟨1, 41⟩, i6 105, i6 6, .str ⟨1, 44⟩, i6 106, i6 2, .str ⟨1, 99⟩, i6 108, i6 6, .str ⟨1, 91⟩, i6 110, i6 3, .str ⟨1, 50⟩, i6 111, i6 6, .str ⟨1, 93⟩, i6 112, i6 5, .str ⟨7, 23157120498421321⟩, i6 114, i6 6, .str ⟨1, 40⟩, i6 122, i6 3, .str ⟨1, 48⟩, i6 123, i6 6, .str ⟨2, 11822⟩, i6 124, i6 3, .str ⟨1, 55⟩, i6 126, i6 6, .str ⟨1, 41⟩, i6 127, i6 5, .str ⟨8, 5494759122808361039⟩, i6 129, i6 6, .str ⟨1, 44⟩, i6 137, i6 6, .str ⟨3, 3026478⟩, i6 139, i6 6, .str ⟨1, 44⟩, i6 142, i6 2, .str ⟨1, 100⟩, i6 144, i6 6, .str ⟨1, 91⟩, i6 146, i6 3, .str ⟨1, 51⟩, i6 147, i6 6, .str ⟨1, 93⟩, i6 148, i6 5, .str ⟨7, 23157120498421321⟩, i6 150, i6 6, .str ⟨1, 40⟩, i6 158, i6 3, .str ⟨1, 48⟩, i6 159, i6 6, .str ⟨2, 11822⟩, i6 160, i6 3, .str ⟨1, 55⟩, i6 162, i6 6, .str ⟨1, 41⟩, i6 163, i6 6, .str ⟨1, 44⟩, i6 164, i6 2, .str ⟨1, 101⟩, i6 166, i6 6, .str ⟨1, 91⟩, i6 168, i6 3, .str ⟨1, 52⟩, i6 169, i6 6, .str ⟨1, 93⟩, i6 170, i6 5, .str ⟨7, 23157120498421321⟩, i6 172, i6 6, .str ⟨1, 40⟩, i6 180, i6 3, .str ⟨1, 48⟩, i6 181, i6 6, .str ⟨2, 11822⟩, i6 182, i6 3, .str ⟨1, 55⟩, i6 184, i6 6, .str ⟨1, 41⟩, i6 185, i6 6, .str ⟨1, 125⟩, i6 187, i6 5, .str ⟨3, 4476485⟩, i6 189, i6 0, .str ⟨0, 0⟩, i6 192])], 197⟩
theorem cTok_right : cTok.right (DT ([] : List (Nat × Blk)) 100000 60 56) = true := by kernel_rfl
end
noncomputable section
def eAw : Few := ⟨100, [],
 [],
 bT, 436,
 []⟩
theorem eAw_right : eAw.right 2 ((DT [] 100000 60) 11) = true := by kernel_rfl
theorem eAw_shape : eAw.shape = true := by kernel_rfl
end
noncomputable section
def kn1 : List (Nat × List Con) := [(56, [cTok])]
def DK : Den := denK (BD [] 100000) kn1 [] 60
theorem DK_ok : ∀ f : FuncId, SoundFn Tryz.prog [] glob f (DK f) := denK_ok (fun D hD => BD_ok [] 100000 D hD) globLt (by decide) (by
 unfold kn1
 simp only [List.forall_mem_cons, List.not_mem_nil, false_implies, implies_true, and_true]
 intro e he
 obtain rfl := List.mem_singleton.1 he
 exact ⟨_, DT_ok ([] : List (Nat × Blk)) 100000 60 _, cTok_right⟩) [] 60
def t0_3 : BS := ⟨143, 63757648272475499809165130852109316160187163840807470318864947960051258721376054321675400022826846826063126580788904991455798000037947363690790802936312560522582332020562118087092589871635751964375197827606528568601575744263807483779091136969274080482654008092781790342526486992796551968810117421277509737481220230894571003476472959958786515021⟩
def eT3 : Few := ⟨100, [.str t0_3],
 [],
 .tup [.agg [.str ⟨1, 77⟩, .sl 322 0 1 (.op 1), .sl 491 0 1 (.op 1), .sl 411 0 4 (.op 13)], bT], 504,
 bl3⟩
theorem eT3_right : eT3.right 2 (DK 13) = true := by kernel_rfl
theorem eT3_shape : eT3.shape = true := by kernel_rfl
end
noncomputable section
def t0_4 : BS := ⟨192, 643117888588701396025003869779306744469613934172426038919487355322765521252323431706996195152834599746805628761204982138436596604189638348365038053687873031581300231119407504313712756049959687215918956622085215963262331515685271861730913240378031482283314549377824335134877620328057620065332819954424028938557438425457398796659690222896597671471716045783536400765388268954106658044027258964431837620841113951179915368691440539534041377244420665928985860492238925⟩
def eT5 : Few := ⟨100, [.str t0_4],
 [],
 .tup [.agg [.str ⟨1, 77⟩, .sl 428 0 1 (.op 1), .sl 799 0 1 (.op 1), .sl 559 0 6 (.op 13)], bT], 812,
 bl5⟩
theorem eT5_right : eT5.right 2 (DK 13) = true := by kernel_rfl
theorem eT5_shape : eT5.shape = true := by kernel_rfl
end
noncomputable section
def kn : List (Nat × List Few) := [(13, [eT3, eT5]), (37, [eRo3, eRo5]), (154, [eOF3, eOF5]), (155, [eOS3, eOS5]), (11, [eAw]), (140, [eSp]), (237, [eWd])]
def TW (E : List (Nat × Blk)) (d : Nat) : Den := Nat.rec (fun _ _ _ => none) (fun _ ih f => match lookF kn f with
 | some l => locF l (BD E 200000 ih f)
 | none => BD E 200000 ih f) d
theorem kn_right : ∀ p ∈ kn, ∃ F', SoundFn Tryz.prog [] glob p.1 F' ∧ ∀ e ∈ p.2, e.right 2 F' = true := by
 unfold kn
 simp only [List.forall_mem_cons, List.not_mem_nil, false_implies, implies_true, and_true]
 exact ⟨⟨_, DK_ok 13, eT3_right, eT5_right⟩, ⟨_, DT_ok ([] : List (Nat × Blk)) 100000 60 37, eRo3_right, eRo5_right⟩, ⟨_, DT_ok ([] : List (Nat × Blk)) 100000 60 154, eOF3_right, eOF5_right⟩, ⟨_, DT_ok ([] : List (Nat × Blk)) 100000 60 155, eOS3_right, eOS5_right⟩, ⟨_, DT_ok ([] : List (Nat × Blk)) 100000 60 11, eAw_right⟩, ⟨_, DT_ok ([] : List (Nat × Blk)) 100000 60 140, eSp_right⟩, ⟨_, DT_ok ([] : List (Nat × Blk)) 100000 60 237, eWd_right⟩⟩
theorem TW_ok (E : List (Nat × Blk)) : ∀ (d : Nat) (f : FuncId), SoundFn Tryz.prog E glob f (TW E d f) := by
 intro d
 induction d with
 | zero => intro f C _ _ R σ w args xs v σ' h; cases h
 | succ d ih =>
  intro f
  show SoundFn Tryz.prog E glob f (match lookF kn f with
   | some l => locF l (BD E 200000 (TW E d) f)
   | none => BD E 200000 (TW E d) f)
  split
  ·rename_i l hl
   rw [lookF_eq] at hl
   obtain ⟨F', h1, h2⟩ := kn_right _ (look_mem hl)
   exact locF_ok (BD_ok E 200000 (TW E d) ih f) h1 globLt h2
  ·exact BD_ok E 200000 (TW E d) ih f
theorem DE15 (E : List (Nat × Blk)) (d : Nat) : TW E (d + 1) 15 = F15 E (TW E d) (drawW E (TW E d)) 200000 := by kernel_rfl
theorem DE17 (E : List (Nat × Blk)) (d : Nat) : TW E (d + 1) 17 = F17 E (TW E d) (drawW E (TW E d)) 200000 := by kernel_rfl
theorem DE18 (E : List (Nat × Blk)) (d : Nat) : TW E (d + 1) 18 = F18 E (TW E d) (drawW E (TW E d)) 200000 := by kernel_rfl
theorem DE19 (E : List (Nat × Blk)) (d : Nat) : TW E (d + 1) 19 = F19 E (TW E d) (drawW E (TW E d)) 200000 := by kernel_rfl
theorem DE20 (E : List (Nat × Blk)) (d : Nat) : TW E (d + 1) 20 = F20 E (TW E d) (drawW E (TW E d)) 200000 := by kernel_rfl
theorem DE21 (E : List (Nat × Blk)) (d : Nat) : TW E (d + 1) 21 = F21 E (TW E d) (drawW E (TW E d)) 200000 := by kernel_rfl
theorem DE22 (E : List (Nat × Blk)) (d : Nat) : TW E (d + 1) 22 = F22 E (TW E d) (drawW E (TW E d)) 200000 := by kernel_rfl
theorem DE23 (E : List (Nat × Blk)) (d : Nat) : TW E (d + 1) 23 = F23 E (TW E d) (drawW E (TW E d)) 200000 := by kernel_rfl
theorem DE36 (E : List (Nat × Blk)) (d : Nat) : TW E (d + 1) 36 = F36 E (TW E d) (drawW E (TW E d)) 200000 := by kernel_rfl
theorem DE38 (E : List (Nat × Blk)) (d : Nat) : TW E (d + 1) 38 = F38 E (TW E d) (drawW E (TW E d)) 200000 := by kernel_rfl
theorem DE39 (E : List (Nat × Blk)) (d : Nat) : TW E (d + 1) 39 = F39 E (TW E d) (drawW E (TW E d)) 200000 := by kernel_rfl
theorem DE40 (E : List (Nat × Blk)) (d : Nat) : TW E (d + 1) 40 = F40 E (TW E d) (drawW E (TW E d)) 200000 := by kernel_rfl
theorem DE41 (E : List (Nat × Blk)) (d : Nat) : TW E (d + 1) 41 = F41 E (TW E d) (drawW E (TW E d)) 200000 := by kernel_rfl
theorem DE42 (E : List (Nat × Blk)) (d : Nat) : TW E (d + 1) 42 = F42 E (TW E d) (drawW E (TW E d)) 200000 := by kernel_rfl
theorem DE43 (E : List (Nat × Blk)) (d : Nat) : TW E (d + 1) 43 = F43 E (TW E d) (drawW E (TW E d)) 200000 := by kernel_rfl
theorem DE44 (E : List (Nat × Blk)) (d : Nat) : TW E (d + 1) 44 = F44 E (TW E d) (drawW E (TW E d)) 200000 := by kernel_rfl
theorem DE45 (E : List (Nat × Blk)) (d : Nat) : TW E (d + 1) 45 = F45 E (TW E d) (drawW E (TW E d)) 200000 := by kernel_rfl
theorem DE65 (E : List (Nat × Blk)) (d : Nat) : TW E (d + 1) 65 = F65 E (TW E d) (drawW E (TW E d)) 200000 := by kernel_rfl
theorem DE66 (E : List (Nat × Blk)) (d : Nat) : TW E (d + 1) 66 = F66 E (TW E d) (drawW E (TW E d)) 200000 := by kernel_rfl
theorem DE69 (E : List (Nat × Blk)) (d : Nat) : TW E (d + 1) 69 = F69 E (TW E d) (drawW E (TW E d)) 200000 := by kernel_rfl
theorem DE70 (E : List (Nat × Blk)) (d : Nat) : TW E (d + 1) 70 = F70 E (TW E d) (drawW E (TW E d)) 200000 := by kernel_rfl
theorem DE71 (E : List (Nat × Blk)) (d : Nat) : TW E (d + 1) 71 = F71 E (TW E d) (drawW E (TW E d)) 200000 := by kernel_rfl
theorem DE72 (E : List (Nat × Blk)) (d : Nat) : TW E (d + 1) 72 = F72 E (TW E d) (drawW E (TW E d)) 200000 := by kernel_rfl
theorem DE74 (E : List (Nat × Blk)) (d : Nat) : TW E (d + 1) 74 = F74 E (TW E d) (drawW E (TW E d)) 200000 := by kernel_rfl
theorem DE77 (E : List (Nat × Blk)) (d : Nat) : TW E (d + 1) 77 = F77 E (TW E d) (drawW E (TW E d)) 200000 := by kernel_rfl
theorem DE84 (E : List (Nat × Blk)) (d : Nat) : TW E (d + 1) 84 = F84 E (TW E d) (drawW E (TW E d)) 200000 := by kernel_rfl
theorem DE85 (E : List (Nat × Blk)) (d : Nat) : TW E (d + 1) 85 = F85 E (TW E d) (drawW E (TW E d)) 200000 := by kernel_rfl
theorem DE86 (E : List (Nat × Blk)) (d : Nat) : TW E (d + 1) 86 = F86 E (TW E d) (drawW E (TW E d)) 200000 := by kernel_rfl
theorem DE87 (E : List (Nat × Blk)) (d : Nat) : TW E (d + 1) 87 = F87 E (TW E d) (drawW E (TW E d)) 200000 := by kernel_rfl
theorem DE131 (E : List (Nat × Blk)) (d : Nat) : TW E (d + 1) 131 = F131 E (TW E d) (drawW E (TW E d)) 200000 := by kernel_rfl
theorem DE132 (E : List (Nat × Blk)) (d : Nat) : TW E (d + 1) 132 = F132 E (TW E d) (drawW E (TW E d)) 200000 := by kernel_rfl
theorem DE136 (E : List (Nat × Blk)) (d : Nat) : TW E (d + 1) 136 = F136 E (TW E d) (drawW E (TW E d)) 200000 := by kernel_rfl
theorem DE138 (E : List (Nat × Blk)) (d : Nat) : TW E (d + 1) 138 = F138 E (TW E d) (drawW E (TW E d)) 200000 := by kernel_rfl
theorem DE139 (E : List (Nat × Blk)) (d : Nat) : TW E (d + 1) 139 = F139 E (TW E d) (drawW E (TW E d)) 200000 := by kernel_rfl
theorem DE141 (E : List (Nat × Blk)) (d : Nat) : TW E (d + 1) 141 = F141 E (TW E d) (drawW E (TW E d)) 200000 := by kernel_rfl
theorem DE147 (E : List (Nat × Blk)) (d : Nat) : TW E (d + 1) 147 = F147 E (TW E d) (drawW E (TW E d)) 200000 := by kernel_rfl
theorem DE148 (E : List (Nat × Blk)) (d : Nat) : TW E (d + 1) 148 = F148 E (TW E d) (drawW E (TW E d)) 200000 := by kernel_rfl
theorem DE149 (E : List (Nat × Blk)) (d : Nat) : TW E (d + 1) 149 = F149 E (TW E d) (drawW E (TW E d)) 200000 := by kernel_rfl
theorem DE151 (E : List (Nat × Blk)) (d : Nat) : TW E (d + 1) 151 = F151 E (TW E d) (drawW E (TW E d)) 200000 := by kernel_rfl
theorem DE152 (E : List (Nat × Blk)) (d : Nat) : TW E (d + 1) 152 = F152 E (TW E d) (drawW E (TW E d)) 200000 := by kernel_rfl
theorem DE156 (E : List (Nat × Blk)) (d : Nat) : TW E (d + 1) 156 = F156 E (TW E d) (drawW E (TW E d)) 200000 := by kernel_rfl
theorem DE157 (E : List (Nat × Blk)) (d : Nat) : TW E (d + 1) 157 = F157 E (TW E d) (drawW E (TW E d)) 200000 := by kernel_rfl
theorem DE158 (E : List (Nat × Blk)) (d : Nat) : TW E (d + 1) 158 = F158 E (TW E d) (drawW E (TW E d)) 200000 := by kernel_rfl
theorem DE159 (E : List (Nat × Blk)) (d : Nat) : TW E (d + 1) 159 = F159 E (TW E d) (drawW E (TW E d)) 200000 := by kernel_rfl
theorem DE160 (E : List (Nat × Blk)) (d : Nat) : TW E (d + 1) 160 = F160 E (TW E d) (drawW E (TW E d)) 200000 := by kernel_rfl
theorem DE161 (E : List (Nat × Blk)) (d : Nat) : TW E (d + 1) 161 = F161 E (TW E d) (drawW E (TW E d)) 200000 := by kernel_rfl
theorem DE162 (E : List (Nat × Blk)) (d : Nat) : TW E (d + 1) 162 = F162 E (TW E d) (drawW E (TW E d)) 200000 := by kernel_rfl
theorem DE163 (E : List (Nat × Blk)) (d : Nat) : TW E (d + 1) 163 = F163 E (TW E d) (drawW E (TW E d)) 200000 := by kernel_rfl
theorem DE182 (E : List (Nat × Blk)) (d : Nat) : TW E (d + 1) 182 = F182 E (TW E d) (drawW E (TW E d)) 200000 := by kernel_rfl
theorem DE230 (E : List (Nat × Blk)) (d : Nat) : TW E (d + 1) 230 = F230 E (TW E d) (drawW E (TW E d)) 200000 := by kernel_rfl
theorem DE231 (E : List (Nat × Blk)) (d : Nat) : TW E (d + 1) 231 = F231 E (TW E d) (drawW E (TW E d)) 200000 := by kernel_rfl
theorem DE233 (E : List (Nat × Blk)) (d : Nat) : TW E (d + 1) 233 = F233 E (TW E d) (drawW E (TW E d)) 200000 := by kernel_rfl
theorem DE234 (E : List (Nat × Blk)) (d : Nat) : TW E (d + 1) 234 = F234 E (TW E d) (drawW E (TW E d)) 200000 := by kernel_rfl
theorem DE244 (E : List (Nat × Blk)) (d : Nat) : TW E (d + 1) 244 = F244 E (TW E d) (drawW E (TW E d)) 200000 := by kernel_rfl
theorem DE248 (E : List (Nat × Blk)) (d : Nat) : TW E (d + 1) 248 = F248 E (TW E d) (drawW E (TW E d)) 200000 := by kernel_rfl
theorem DE249 (E : List (Nat × Blk)) (d : Nat) : TW E (d + 1) 249 = F249 E (TW E d) (drawW E (TW E d)) 200000 := by kernel_rfl
theorem DE252 (E : List (Nat × Blk)) (d : Nat) : TW E (d + 1) 252 = F252 E (TW E d) (drawW E (TW E d)) 200000 := by kernel_rfl
theorem DE260 (E : List (Nat × Blk)) (d : Nat) : TW E (d + 1) 260 = F260 E (TW E d) (drawW E (TW E d)) 200000 := by kernel_rfl
theorem DE289 (E : List (Nat × Blk)) (d : Nat) : TW E (d + 1) 289 = F289 E (TW E d) (drawW E (TW E d)) 200000 := by kernel_rfl
theorem DE13 (E : List (Nat × Blk)) (d : Nat) : TW E (d + 1) 13 = locF [eT3, eT5] (BD E 200000 (TW E d) 13) := by kernel_rfl
theorem DE37 (E : List (Nat × Blk)) (d : Nat) : TW E (d + 1) 37 = locF [eRo3, eRo5] (BD E 200000 (TW E d) 37) := by kernel_rfl
theorem DE154 (E : List (Nat × Blk)) (d : Nat) : TW E (d + 1) 154 = locF [eOF3, eOF5] (BD E 200000 (TW E d) 154) := by kernel_rfl
theorem DE155 (E : List (Nat × Blk)) (d : Nat) : TW E (d + 1) 155 = locF [eOS3, eOS5] (BD E 200000 (TW E d) 155) := by kernel_rfl
theorem DE11 (E : List (Nat × Blk)) (d : Nat) : TW E (d + 1) 11 = locF [eAw] (BD E 200000 (TW E d) 11) := by kernel_rfl
theorem DE140 (E : List (Nat × Blk)) (d : Nat) : TW E (d + 1) 140 = locF [eSp] (BD E 200000 (TW E d) 140) := by kernel_rfl
theorem DE237 (E : List (Nat × Blk)) (d : Nat) : TW E (d + 1) 237 = locF [eWd] (BD E 200000 (TW E d) 237) := by kernel_rfl
end
noncomputable section
def keyV : V → Nat
 | .str s => s.len
 | .agg (_ :: _ :: _ :: .sl _ _ n _ :: _) => n
 | _ => 0
def keyL : List V → Nat
 | v :: _ => keyV v
 | [] => 0
theorem keyV_rn (ρ : Nat → Nat) : ∀ v : V, keyV (v.rn ρ) = keyV v := by
 intro v
 cases v with
 | agg l =>
  rcases l with _ | ⟨a, _ | ⟨b, _ | ⟨c, _ | ⟨e, l⟩⟩⟩⟩
  ·rfl
  ·rfl
  ·rfl
  ·rfl
  ·cases e <;> rfl
 | _ => rfl
theorem keyL_rn (ρ : Nat → Nat) (l : List V) : keyL (rns ρ l) = keyL l := by
 cases l with
 | nil => rfl
 | cons v l => exact keyV_rn ρ v
theorem hit_of {l : List Few} {e : Few} {F : List V → H → Ans} {args : List V} {σ : H} {ρ : Nat → Nat} (he : e ∈ l) (hm : e.Fits ρ args σ) (hu : ∀ e' ∈ l, keyL e'.args = keyL e.args → e' = e) : ∃ ρ', e.Fits ρ' args σ ∧ locF l F args σ = some (e.ans ρ' σ) := by
 obtain ⟨e', ρ', he', hf, hr⟩ := locF_hit (F := F) he hm
 have h : e' = e := hu e' he' (by
  have h1 := hf.args
  have h2 := hm.args
  rw [← keyL_rn ρ', ← h1, h2, keyL_rn])
 subst h
 exact ⟨ρ', hf, hr⟩
theorem Has.nil {ρ : Nat → Nat} {σ : H} : Has [] ρ σ := fun id b h => by cases h
theorem Inj.nil {ρ : Nat → Nat} : Inj [] ρ := fun id id' h => by cases h
variable {E : List (Nat × Blk)}
theorem xBit (d : Nat) : SpBit (TW E (d + 1) 41) := by rw [DE41]; exact r01bit_F
theorem xBits (d : Nat) : SpBits (TW E (d + 2) 20) := by rw [DE20]; exact bits_F (xBit d) (by decide)
theorem xB32 (d : Nat) : SpBits32 (TW E (d + 1) 163) := by rw [DE163]; exact bits32_F (by decide)
theorem xOcts (d : Nat) : SpOcts E (TW E (d + 2) 87) := by rw [DE87]; exact octs_F (xB32 d) (by decide)
theorem xOct1 (d : Nat) : SpOct1 E (TW E (d + 3) 44) := by rw [DE44]; exact oct1_F (xOcts d)
theorem xCuts (d : Nat) : SpCuts (TW E (d + 1) 42) := by rw [DE42]; exact cuts_F (by decide)
theorem xDet (d : Nat) : SpDet (TW E (d + 3) 43) := by rw [DE43]; exact det_F (xBits d)
theorem xPut (d : Nat) : SpPut E (TW E (d + 4) 21) := by rw [DE21]; exact put_F (xCuts (d + 2)) (xDet d) (xOct1 d) (by decide)
theorem xBytes (d : Nat) : SpBytes 90000 (TW E (d + 1) 45) := by rw [DE45]; exact r01bytes_F (by decide) (by decide)
theorem xWb (d : Nat) : SpWBit (TW E (d + 1) 289) := by rw [DE289]; exact wbit_F
theorem xBd32 (d : Nat) : SpBdd 32 (TW E (d + 1) 260) := by rw [DE260]; exact bdd32_F
theorem xBd64 (d : Nat) : SpBdd 64 (TW E (d + 1) 182) := by rw [DE182]; exact bdd64_F
theorem xPwb (d : Nat) : SpWBits (TW E (d + 2) 234) := by rw [DE234]; exact pwbits_F (xWb d) (xBd32 d) (by decide)
theorem xWw (d : Nat) : SpWWBits (TW E (d + 3) 139) := by rw [DE139]; exact wwbits_F (xPwb d) (xBd64 (d + 1))
theorem xFl (d : Nat) : SpEFlag (TW E (d + 4) 71) := by rw [DE71]; exact eflag_F (xWw d)
theorem xLen (d : Nat) : SpWLen (TW E (d + 1) 162) := by rw [DE162]; exact pwlen_F
theorem xWLen (d : Nat) : SpWLen (TW E (d + 2) 85) := by rw [DE85]; exact wwlen_F (xLen d)
theorem xPB (d : Nat) : SpWBytes (TW E (d + 1) 86) := by rw [DE86]; exact pwbytes_F
theorem xWB (d : Nat) : SpWBytes (TW E (d + 3) 40) := by rw [DE40]; exact wwbytes_F (xWLen d) (xPB (d + 1))
theorem xPO (d : Nat) : SpWOct (TW E (d + 3) 151) := by rw [DE151]; exact pwoct_F (xPwb d) (by decide)
theorem xWO (d : Nat) : SpWOct1 (TW E (d + 4) 77) := by rw [DE77]; exact wwoct_F (xPO d)
theorem xlput (d : Nat) : SpWput (TW E (d + 4) 149) := by rw [DE149]; exact lput_F (xWw d)
theorem xJoin (d : Nat) : SpJoin1 (TW E (d + 1) 147) := by rw [DE147]; exact join1_F (by decide)
theorem xlcut (d : Nat) {σ : H} {n : Nat} (hn : n < 16384) : TW E (d + 1) 244 [.int .i64 (Int.ofNat n)] σ = some (.tup [.int .i64 (Int.ofNat n), .bool false], σ) := by rw [DE244]; exact lcut_F hn
theorem xlCuts (d : Nat) : SpCuts1 (TW E (d + 2) 148) := by rw [DE148]; exact lCuts_F (fun σ n hn => xlcut d hn) (by decide)
theorem xlPut (d : Nat) : SpLPut (TW E (d + 5) 74) := by rw [DE74]; exact lPut_F (xJoin (d + 3)) (xlCuts (d + 2)) (xlput d) (xWO d) (by decide)
theorem xPlain (d : Nat) : SpPlain (TW E (d + 1) 131) := by rw [DE131]; exact plain_F
theorem xWithin (d : Nat) : SpWithin (TW E (d + 1) 132) := by rw [DE132]; exact fun σ h hl hh mo lo hi v ht => within_F ht h hl hh mo lo hi v
theorem xAbs (d : Nat) : SpAbs (TW E (d + 2) 158) := by rw [DE158]; exact fun ht v nb nl nm h1 h2 h3 => absent_F (xPlain d) ht h1 h2 h3
theorem xLoose (d : Nat) : SpLoose (TW E (d + 1) 231) := by rw [DE231]; exact fun ht x nf fd hf k hk => loose_F ht x hf hk
theorem xIx (d : Nat) : SpIx (TW E (d + 1) 138) (TW E d) := by rw [DE138]; exact fun ht hr hq hn => ixV_F ht hr hq (by omega) (by omega)
theorem xCf (d : Nat) : SpCf (TW E (d + 2) 69) (TW E d) := by rw [DE69]; exact cfV_F (xIx d)
theorem xFitI (d : Nat) {nT i : Nat} {ty : Nat → Ty} (hi : i < nT) (hk : (ty i).kind = Int.ofNat 2) {n : Int} (hw : ((ty i).conMore || withinB (ty i).has (ty i).hasLow (ty i).hasHigh (ty i).low (ty i).high n) = true) : SpFit (TW E (d + 2) 65) nT ty i (Vc.int n) := by
 rw [DE65]; exact fun σ p dp nm nv rv tv rest ht hc hd => fitsInt_F (xPlain d) (xWithin d) ht hc hi hd hk hw
theorem xRaws (d : Nat) : SpRaws (TW E (d + 1) 230) := by rw [DE230]; exact fun ht hc i hi v hm hr => raws_F ht hc hi v hm hr
theorem xCount0 (d : Nat) {σ : H} (ht : Tidy σ) (v : Vc) (hl : v.l = .nils) : ∃ σ', TW E (d + 1) 66 [.agg v.c] σ = some (.int .i64 (Int.ofNat 1), σ') ∧ Fr Nowhere σ σ' := by
 rw [DE66]; exact count_F (n := 0) (g := fun _ => v) (by omega) (by omega) ht ⟨.inl ⟨rfl, hl⟩⟩ (fun _ k hk => absurd hk (Nat.not_lt_zero _))
theorem xRules0 (d : Nat) {σ : H} (ht : Tidy σ) (v : Vc) (hl : v.l = .nils) (hr : v.r = Int.ofNat 0) (ru : Int) : ∃ σ', TW E (d + 3) 38 [.agg v.c, .int .i64 ru] σ = some (.bool true, σ') ∧ Fr Nowhere σ σ' := by
 rw [DE38]; exact rules_F (n := 0) (g := fun _ => v) (xCf d) (by omega) (by rw [hr]; rfl) ht ⟨.inl ⟨rfl, hl⟩⟩ (fun _ _ k hk => absurd hk (Nat.not_lt_zero _))
theorem xRules1 (d : Nat) {σ : H} (ht : Tidy σ) (v : Vc) (hl : v.l = .nils) (hr : v.r = Int.ofNat 0) {ru : Int} {q : Nat} (ha : Atc σ q [.int .i64 ru]) : ∃ σ', TW E (d + 4) 70 ([] ++ [.agg v.c] ++ [.ptr q 0]) σ = some (.bool false, σ') ∧ Fr Nowhere σ σ' := by
 rw [DE70]; exact rules1_F (fun σ1 h1 _ => xRules0 d h1 v hl hr ru) ht ha
theorem xRules (d : Nat) {σ : H} (ht : Tidy σ) {v : Vc} {n : Nat} {g : Nat → Vc} {ru : Int} (hr : Row σ 6 n v.l fun k => (g k).c) (hv : (eqF v.r (Int.ofNat 0) || eqF v.r ru) = true) (hn : n ≤ 10000) (hg : ∀ k, k < n → (g k).l = .nils ∧ (g k).r = Int.ofNat 0) : ∃ σ', TW E (d + 7) 38 [.agg v.c, .int .i64 ru] σ = some (.bool true, σ') ∧ Fr Nowhere σ σ' := by
 rw [DE38]; exact rules_F (xCf (d + 4)) hn hv ht hr (fun σ1 q k hk f ha => xRules1 d f.tidy (g k) (hg k hk).1 (hg k hk).2 ha)
theorem xCount (d : Nat) {σ : H} (ht : Tidy σ) {v : Vc} {n : Nat} {g : Nat → Vc} (hr : Row σ 6 n v.l fun k => (g k).c) (hn : n ≤ 10000) (hg : ∀ k, k < n → (g k).l = .nils) : ∃ σ', TW E (d + 2) 66 [.agg v.c] σ = some (.int .i64 (Int.ofNat (1 + n)), σ') ∧ Fr Nowhere σ σ' := by
 rw [DE66]; exact count_F (by omega) hn ht hr (fun σ1 k hk f => xCount0 d f.tidy (g k) (hg k hk))
theorem xIxB (d : Nat) : SpIxB (TW E (d + 1) 249) := by rw [DE249]; exact fun σ v B hx hb => ixB_F hx (by omega) (by omega)
theorem xCB (d : Nat) : SpCB (TW E (d + 2) 159) := by rw [DE159]; exact cB_F (xIxB d)
theorem xIxI (d : Nat) : SpIxI (TW E (d + 1) 248) (TW E d) := by rw [DE248]; exact ixI_F (by decide)
theorem xCfI (d : Nat) : SpCfI (TW E (d + 2) 156) (TW E d) := by rw [DE156]; exact cfI_F (xIxI d)
theorem xSpan (d : Nat) : SpSpan con7 7 (TW E (d + 1) 140) := by
 intro σ ht
 obtain ⟨ρ, hf, hr⟩ := hit_of (l := [eSp]) (e := eSp) (F := BD E 200000 (TW E d) 140) (List.mem_singleton.2 rfl) (fits_of (e := eSp) (ρ := fun x => x) (args := [.agg con7]) (σ := σ) rfl Has.nil Inj.nil) (fun e' he _ => List.mem_singleton.1 he)
 exact ⟨_, by rw [DE140, hr]; rfl, Few.fr0 eSp_shape (by kernel_rfl) hf ht⟩
theorem xWid (d : Nat) : SpWidth 7 3 (TW E (d + 1) 237) := by
 intro σ ht
 obtain ⟨ρ, hf, hr⟩ := hit_of (l := [eWd]) (e := eWd) (F := BD E 200000 (TW E d) 237) (List.mem_singleton.2 rfl) (fits_of (e := eWd) (ρ := fun x => x) (args := [.int .u64 (Int.ofNat 7)]) (σ := σ) rfl Has.nil Inj.nil) (fun e' he _ => List.mem_singleton.1 he)
 exact ⟨_, by rw [DE237, hr]; rfl, Few.fr0 eWd_shape (by kernel_rfl) hf ht⟩
theorem xBetw (d : Nat) : SpBetw 7 3 (TW E (d + 4) 141) := by rw [DE141]; exact betw_F (xWid (d + 2)) (xWw d) (by decide) (by decide)
theorem xEInt (d : Nat) : SpEInt (TW E (d + 5) 72) := by rw [DE72]; exact eint_F (xWithin (d + 3)) (xSpan (d + 3)) (xBetw d)
theorem xVInt (d : Nat) {nT i : Nat} {ty : Nat → Ty} (hi : i < nT) (hk : (ty i).kind = Int.ofNat 2) (hc : (ty i).con = con7) {v : Nat} (hv : v ≤ 7) : SpVal (TW E (d + 6) 39) nT ty i (Vc.int (Int.ofNat v)) (bitsOf 3 v) := by
 rw [DE39]; exact vint_F (xEInt d) hi hk hc hv
theorem xAw (d : Nat) {σ : H} (ht : Tidy σ) : ∃ σ', TW E (d + 1) 11 [] σ = some (.bool true, σ') ∧ Fr Nowhere σ σ' := by
 obtain ⟨ρ, hf, hr⟩ := hit_of (l := [eAw]) (e := eAw) (F := BD E 200000 (TW E d) 11) (List.mem_singleton.2 rfl) (fits_of (e := eAw) (ρ := fun x => x) (args := []) (σ := σ) rfl Has.nil Inj.nil) (fun e' he _ => List.mem_singleton.1 he)
 exact ⟨_, by rw [DE11, hr]; rfl, Few.fr0 eAw_shape (by kernel_rfl) hf ht⟩
section
variable {nT : Nat} {ty : Nat → Ty} {nf : Nat} {fd : Nat → Fd} {g : Nat → Vc} {ab : Nat → Bool} {X : Nat → List Nat}
theorem xSome (d : Nat) (hA : SpAb (TW E (d + 6) 158) nf g ab) (hV : Fds (TW E (d + 6) 39) nT ty nf fd g ab X) : SpESome (TW E (d + 7) 160) nT ty nf fd g ab X := by
 intro σ0 x l lv K eb w v0 u σ L nm nv rv tv ht0 T hs hr hKn hv0 wk hK hl hk
 rw [DE160]
 exact some_F hA (xFl (d + 2)) hV ht0 T hs hr hKn hv0 wk hK hl hk (by decide)
theorem xEAq (d : Nat) (hV : Fds (TW E (d + 6) 39) nT ty nf fd g ab X) : SpEAq (TW E (d + 7) 252) nT ty nf fd g ab X := by
 intro k σ0 σ1 q17 q7 q16 bk eb1 w1 v0 nm nv rv tv hk ha ht0 T hr a17 a7 a16 ak wk
 obtain ⟨j, hj, hval⟩ := hV.val k hk ha
 rw [DE252]
 exact eaddsq_F hk hj hval rfl ht0 T hr a17 a7 a16 ak wk
theorem xEOpen (d : Nat) : SpEOpen (TW E (d + 6) 152) (TW E (d + 5)) := by rw [DE152]; exact eopen_F (xWB (d + 2)) (xlPut d)
theorem xAdds (d : Nat) {S : List Nat} {x : Ty} (hV : Fds (TW E (d + 6) 39) nT ty nf fd g ab X) (hX0 : ∀ k ∈ S, ab k = false → 0 < (X k).length) (hS : ∀ k ∈ S, k < nf) (hSl : S.length ≤ 64) (hS0 : 0 < S.length) (hg : ∀ k ∈ S, (fd k).group = Int.ofNat 0) (hfb : ∀ k, k < nf → V.beq (.agg (fd k).c) (.agg (fd k).c) = true) {v0 : Vc} (hv0 : v0.m = .nils) :
  SpEAdds (TW E (d + 9) 161) x v0 S (S.map fun k => !ab k) g nT ty nf fd (addsY ab X S) := by
 rw [DE161]; exact eadds_F (xWw (d + 5)) (xFl (d + 4)) (xEOpen (d + 2)) (xEAq d hV) hV.few hX0 hS hSl hS0 hg hfb hv0 (by decide)
end
end
noncomputable section
def flatR (m : Nat) (g : Nat → List V) : List V := ((List.range m).map g).flatten
theorem flatR_succ (m : Nat) (g : Nat → List V) : flatR (m + 1) g = flatR m g ++ g m := by
 unfold flatR; rw [List.range_succ, List.map_append, List.flatten_append]; simp
theorem flatR_length {esz : Nat} {g : Nat → List V} (hg : ∀ k, (g k).length = esz) : ∀ m, (flatR m g).length = m * esz
 | 0 => by simp [flatR]
 | m + 1 => by rw [flatR_succ, List.length_append, flatR_length hg m, hg, Nat.add_mul, Nat.one_mul]
theorem flatR_cel {esz : Nat} {g : Nat → List V} (hg : ∀ k, (g k).length = esz) : ∀ {m k : Nat}, k < m → Cel (flatR m g) esz k (g k)
 | m + 1, k, h => by
  have hl := flatR_length hg (m + 1)
  refine ⟨by rw [hl]; have := Nat.mul_le_mul_right esz (show k + 1 ≤ m + 1 by omega); rw [Nat.add_mul, Nat.one_mul] at this; exact this, ?_⟩
  rw [flatR_succ]
  by_cases hk : k < m
  ·have ih := flatR_cel hg hk
   have h1 := ih.1
   rw [List.drop_append_of_le_length (by omega), List.take_append_of_le_length (by rw [List.length_drop]; omega)]
   exact ih.2
  ·obtain rfl : k = m := by omega
   rw [List.drop_append, List.drop_of_length_le (by rw [flatR_length hg]; exact Nat.le_refl _), flatR_length hg, Nat.sub_self, List.nil_append, List.drop_zero, ← hg k, List.take_length]
theorem Row.flat {σ : H} {b m esz : Nat} {c : Cap} {g : Nat → List V} (hg : ∀ k, (g k).length = esz) (h : Atc σ b (flatR m g)) : Row σ esz m (.sl b 0 m c) g := ⟨.inr ⟨b, c, _, rfl, h, fun _ hk => flatR_cel hg hk⟩⟩
def ty7 (tg : Nat) : Ty := ⟨Int.ofNat 2, .sl tg 0 1 (.ex 1), true, true, true, false, Int.ofNat 0, Int.ofNat 7, .nils, .nils, Int.ofNat 0, false, Int.ofNat 0, rfl, rfl, rfl⟩
def tyS (tg fb n : Nat) (more : Bool) : Ty := ⟨Int.ofNat 7, .sl tg 0 1 (.ex 1), false, false, false, false, Int.ofNat 0, Int.ofNat 0, .nils, .sl fb 0 n (.op 11), Int.ofNat 3, more, Int.ofNat 0, rfl, rfl, rfl⟩
def tyP (n : Nat) (more : Bool) (tg : Nat → Nat) (fb i : Nat) : Ty := if i = 0 then tyS (tg 0) fb n more else ty7 (tg i)
def fdP (k : Nat) : Fd := ⟨⟨1, 97 + k⟩, Int.ofNat (k + 1), k == 0 || k == 2, false, Int.ofNat 0, Int.ofNat 0, .nils, .nils, Int.ofNat 0, .nils, Int.ofNat 0, rfl, rfl, rfl⟩
structure TabP (E : List (Nat × Blk)) (P : H → Prop) (n : Nat) (more : Bool) (S : List Nat) (tg : Nat → Nat) (tb fb : Nat) (nv rv : V) : Prop where
 fr : ∀ σ σ', Tidy σ → Fr Nowhere σ σ' → P σ → P σ'
 types : ∀ σ, P σ → Atc σ tb (flatR (n + 1) fun i => (tyP n more tg fb i).c)
 fields : ∀ σ, P σ → Atc σ fb (flatR n fun k => (fdP k).c)
 slots : ∀ d, SpSlots P S 0 ⟨1, 77⟩ nv rv (.sl tb 0 (n + 1) (.op 13)) (TW E (d + 1) 155)
 order : ∀ d, SpOFs P 0 ⟨1, 77⟩ nv rv (.sl tb 0 (n + 1) (.op 13)) (Int.ofNat 3) [0, 1, 2] (TW E (d + 1) 154)
 rooted : ∀ d σ, Tidy σ → P σ → ∃ σ', TW E (d + 1) 37 [.agg [.str ⟨1, 77⟩, nv, rv, .sl tb 0 (n + 1) (.op 13)]] σ = some (.bool true, σ') ∧ Fr Nowhere σ σ'
 n1 : nv.one = true
 r1 : rv.one = true
 b1 : V.beq nv nv = true
 b2 : V.beq rv rv = true
variable {E : List (Nat × Blk)} {τ : Nat → Nat}
def P3 (τ : Nat → Nat) (σ : H) : Prop := Inj eT3.bl1 τ ∧ Has eT3.bl1 τ σ
def P5 (τ : Nat → Nat) (σ : H) : Prop := Inj eT5.bl1 τ ∧ Has eT5.bl1 τ σ
def tg3 (τ : Nat → Nat) (i : Nat) : Nat := τ ([339, 371, 392, 413].getD i 0)
def tg5 (τ : Nat → Nat) (i : Nat) : Nat := τ ([445, 477, 498, 519, 540, 561].getD i 0)
theorem tab3 : TabP E (P3 τ) 3 false [] (tg3 τ) (τ 411) (τ 415) (.sl (τ 322) 0 1 (.op 1)) (.sl (τ 491) 0 1 (.op 1)) where
  fr := fun σ σ' ht f h => ⟨h.1, h.2.fr f ht fun _ _ h => h⟩
  types := fun σ h => h.2 411 _ rfl
  fields := fun σ h => h.2 415 _ rfl
  slots := fun d σ ht h => by
    obtain ⟨ρ, hf, hr⟩ := hit_of (l := [eOS3, eOS5]) (e := eOS3) (F := BD E 200000 (TW E d) 155) (by simp) (fits_of (e := eOS3) (ρ := τ) (args := [.agg [.str ⟨1, 77⟩, .sl (τ 322) 0 1 (.op 1), .sl (τ 491) 0 1 (.op 1), .sl (τ 411) 0 4 (.op 13)], .int .i64 (Int.ofNat 0)]) rfl h.2 h.1) (by
      intro e' he hk
      rcases List.mem_cons.1 he with rfl | he
      · rfl
      · rw [List.mem_singleton.1 he] at hk; exact absurd hk (by decide +kernel))
    exact ⟨.nils, fun _ => 0, (eOS3.ans ρ σ).2, by rw [DE155, hr]; rfl, ⟨⟨.inl ⟨rfl, rfl⟩⟩, fun j k hk => (by cases hk), rfl⟩, Few.fr0 eOS3_shape (by kernel_rfl) hf ht, fun b hb => hb.elim, fun j hj => absurd hj (Nat.not_lt_zero _)⟩
  order := fun d σ ht h => by
    obtain ⟨ρ, hf, hr⟩ := hit_of (l := [eOF3, eOF5]) (e := eOF3) (F := BD E 200000 (TW E d) 154) (by simp) (fits_of (e := eOF3) (ρ := τ) (args := [.agg [.str ⟨1, 77⟩, .sl (τ 322) 0 1 (.op 1), .sl (τ 491) 0 1 (.op 1), .sl (τ 411) 0 4 (.op 13)], .int .i64 (Int.ofNat 0)]) rfl h.2 h.1) (by
      intro e' he hk
      rcases List.mem_cons.1 he with rfl | he
      · rfl
      · rw [List.mem_singleton.1 he] at hk; exact absurd hk (by decide +kernel))
    have hh := Few.has eOF3_shape hf ht
    have a : Atc (eOF3.ans ρ σ).2 (eOF3.to ρ σ 512) (i64s [0, 1, 2]) := hh 512 _ rfl
    have h1 : σ.next ≤ eOF3.to ρ σ 512 := by
      unfold Few.to
      have h0 : eOF3.n0 = 504 := rfl
      rw [h0, if_neg (by omega)]; omega
    exact ⟨.sl (eOF3.to ρ σ 512) 0 3 (.op 1), .sl (eOF3.to ρ σ 512) 0 3 (.op 1), (eOF3.ans ρ σ).2, by rw [DE154, hr]; rfl, rfl, rfl, rfl, .inr ⟨_, _, _, _, rfl, a, by decide, rfl⟩, fun b hb => by have hb : b = eOF3.to ρ σ 512 := hb; rw [hb]; exact h1, Few.fr0 eOF3_shape (by kernel_rfl) hf ht⟩
  rooted := fun d σ ht h => by
    obtain ⟨ρ, hf, hr⟩ := hit_of (l := [eRo3, eRo5]) (e := eRo3) (F := BD E 200000 (TW E d) 37) (by simp) (fits_of (e := eRo3) (ρ := τ) (args := [.agg [.str ⟨1, 77⟩, .sl (τ 322) 0 1 (.op 1), .sl (τ 491) 0 1 (.op 1), .sl (τ 411) 0 4 (.op 13)]]) rfl h.2 h.1) (by
      intro e' he hk
      rcases List.mem_cons.1 he with rfl | he
      · rfl
      · rw [List.mem_singleton.1 he] at hk; exact absurd hk (by decide +kernel))
    exact ⟨(eRo3.ans ρ σ).2, by rw [DE37, hr]; rfl, Few.fr0 eRo3_shape (by kernel_rfl) hf ht⟩
  n1 := rfl
  r1 := rfl
  b1 := beq_self _ rfl
  b2 := beq_self _ rfl
theorem tab5 : TabP E (P5 τ) 5 true [3, 4] (tg5 τ) (τ 559) (τ 563) (.sl (τ 428) 0 1 (.op 1)) (.sl (τ 799) 0 1 (.op 1)) where
 fr := fun σ σ' ht f h => ⟨h.1, h.2.fr f ht fun _ _ h => h⟩
 types := fun σ h => h.2 559 _ rfl
 fields := fun σ h => h.2 563 _ rfl
 slots := fun d σ ht h => by
  obtain ⟨ρ, hf, hr⟩ := hit_of (l := [eOS3, eOS5]) (e := eOS5) (F := BD E 200000 (TW E d) 155) (by simp) (fits_of (e := eOS5) (ρ := τ) (args := [.agg [.str ⟨1, 77⟩, .sl (τ 428) 0 1 (.op 1), .sl (τ 799) 0 1 (.op 1), .sl (τ 559) 0 6 (.op 13)], .int .i64 (Int.ofNat 0)]) rfl h.2 h.1) (by
   intro e' he hk
   rcases List.mem_cons.1 he with rfl | he
   ·exact absurd hk (by decide +kernel)
   ·exact List.mem_singleton.1 he)
  have hh := Few.has eOS5_shape hf ht
  have a0 : Atc (eOS5.ans ρ σ).2 (eOS5.to ρ σ 818) [.int .i64 (Int.ofNat 3)] := hh 818 _ rfl
  have a1 : Atc (eOS5.ans ρ σ).2 (eOS5.to ρ σ 821) [.int .i64 (Int.ofNat 4)] := hh 821 _ rfl
  have a2 : Atc (eOS5.ans ρ σ).2 (eOS5.to ρ σ 823) (flatR 2 fun j => [.sl (eOS5.to ρ σ (if j = 0 then 818 else 821)) 0 1 (.ex 1)]) := hh 823 _ rfl
  have hn : ∀ id, 812 ≤ id → σ.next ≤ eOS5.to ρ σ id := fun id hid => by
   unfold Few.to
   have h0 : eOS5.n0 = 812 := rfl
   rw [h0, if_neg (by omega)]; omega
  refine ⟨.sl (eOS5.to ρ σ 823) 0 2 (.op 1), fun j => eOS5.to ρ σ (if j = 0 then 818 else 821), (eOS5.ans ρ σ).2, by rw [DE155, hr]; rfl, ⟨Row.flat (fun _ => rfl) a2, fun j k hk => ?_, rfl⟩, Few.fr0 eOS5_shape (by kernel_rfl) hf ht, fun b hb => by have hb : b = eOS5.to ρ σ 823 := hb; rw [hb]; exact hn _ (by decide), fun j _ => hn _ (by split <;> decide)⟩
  match j, hk with
  | 0, hk => cases hk; exact a0
  | 1, hk => cases hk; exact a1
  | j + 2, hk => cases hk
 order := fun d σ ht h => by
  obtain ⟨ρ, hf, hr⟩ := hit_of (l := [eOF3, eOF5]) (e := eOF5) (F := BD E 200000 (TW E d) 154) (by simp) (fits_of (e := eOF5) (ρ := τ) (args := [.agg [.str ⟨1, 77⟩, .sl (τ 428) 0 1 (.op 1), .sl (τ 799) 0 1 (.op 1), .sl (τ 559) 0 6 (.op 13)], .int .i64 (Int.ofNat 0)]) rfl h.2 h.1) (by
   intro e' he hk
   rcases List.mem_cons.1 he with rfl | he
   ·exact absurd hk (by decide +kernel)
   ·exact List.mem_singleton.1 he)
  have hh := Few.has eOF5_shape hf ht
  have a : Atc (eOF5.ans ρ σ).2 (eOF5.to ρ σ 824) (i64s [0, 1, 2, 3, 4]) := hh 824 _ rfl
  have h1 : σ.next ≤ eOF5.to ρ σ 824 := by
   unfold Few.to
   have h0 : eOF5.n0 = 812 := rfl
   rw [h0, if_neg (by omega)]; omega
  obtain ⟨lv, hsl, o, hlv, hc⟩ : ∃ lv, sliceV 1 (.sl (eOF5.to ρ σ 824) 0 5 (.op 1)) none (some (.int .i64 (Int.ofNat 3))) none = some lv ∧ lv.one = true ∧ (∀ b, Names lv b → b = eOF5.to ρ σ 824) ∧ ∃ c, lv = .sl (eOF5.to ρ σ 824) 0 3 c := ⟨_, rfl, rfl, fun b hb => hb, _, rfl⟩
  obtain ⟨c, rfl⟩ := hc
  exact ⟨.sl (eOF5.to ρ σ 824) 0 5 (.op 1), .sl (eOF5.to ρ σ 824) 0 3 c, (eOF5.ans ρ σ).2, by rw [DE154, hr]; rfl, rfl, rfl, hsl, .inr ⟨_, _, _, _, rfl, a, by decide, rfl⟩, fun b hb => by rw [hlv b hb]; exact h1, Few.fr0 eOF5_shape (by kernel_rfl) hf ht⟩
 rooted := fun d σ ht h => by
  obtain ⟨ρ, hf, hr⟩ := hit_of (l := [eRo3, eRo5]) (e := eRo5) (F := BD E 200000 (TW E d) 37) (by simp) (fits_of (e := eRo5) (ρ := τ) (args := [.agg [.str ⟨1, 77⟩, .sl (τ 428) 0 1 (.op 1), .sl (τ 799) 0 1 (.op 1), .sl (τ 559) 0 6 (.op 13)]]) rfl h.2 h.1) (by
   intro e' he hk
   rcases List.mem_cons.1 he with rfl | he
   ·exact absurd hk (by decide +kernel)
   ·exact List.mem_singleton.1 he)
  exact ⟨(eRo5.ans ρ σ).2, by rw [DE37, hr]; rfl, Few.fr0 eRo5_shape (by kernel_rfl) hf ht⟩
 n1 := rfl
 r1 := rfl
 b1 := beq_self _ rfl
 b2 := beq_self _ rfl
def txt3 : BS := ((BS.mk 137 252874003271543593947331098184874304601441845805522950423900096805812980788622400580716538016508425385117289776954132107877497881580710899564611824999152598343847976541856440415309573549064581569044350051659730593656960867256326446476488347815710796982061864432318149894258958459613276272441341244416894149606877866918103088373837).cat (BS.mk 0 0)).cat (BS.mk 6 75102957894944)
def txt5 : BS := ((BS.mk 137 252874003271543593947331098184874304601441845805522950423900096805812980788622400580716538016508425385117289776954132107877497881580710899564611824999152598343847976541856440415309573549064581569044350051659730593656960867256326446476488347815710796982061864432318149894258958459613276272441341244416894149606877866918103088373837).cat (BS.mk 49 1623975293733133521734313334905345086042623102148263682128617684140664239931079092711463160544898431175879982626775084)).cat (BS.mk 6 75102957894944)
theorem txt3_is : eT3.args = [.str txt3] := by kernel_rfl
theorem txt5_is : eT5.args = [.str txt5] := by kernel_rfl
theorem xTab3 (d : Nat) {σ : H} (ht : Tidy σ) : ∃ τ σ', TW E (d + 1) 13 [.str txt3] σ = some (.tup [.agg [.str ⟨1, 77⟩, .sl (τ 322) 0 1 (.op 1), .sl (τ 491) 0 1 (.op 1), .sl (τ 411) 0 4 (.op 13)], .bool true], σ') ∧ P3 τ σ' ∧ Fr Nowhere σ σ' := by
  obtain ⟨ρ, hf, hr⟩ := hit_of (l := [eT3, eT5]) (e := eT3) (F := BD E 200000 (TW E d) 13) (by simp) (fits_of (e := eT3) (ρ := fun x => x) (args := [.str txt3]) (σ := σ) (by rw [txt3_is]; rfl) Has.nil Inj.nil) (by
    intro e' he hk
    rcases List.mem_cons.1 he with rfl | he
    · rfl
    · rw [List.mem_singleton.1 he, txt3_is, txt5_is] at hk; exact absurd hk (by decide +kernel))
  exact ⟨eT3.to ρ σ, _, by rw [DE13, hr]; rfl, ⟨Few.to_inj eT3_shape hf ht, Few.has eT3_shape hf ht⟩, Few.fr0 eT3_shape (by kernel_rfl) hf ht⟩
theorem xTab5 (d : Nat) {σ : H} (ht : Tidy σ) : ∃ τ σ', TW E (d + 1) 13 [.str txt5] σ = some (.tup [.agg [.str ⟨1, 77⟩, .sl (τ 428) 0 1 (.op 1), .sl (τ 799) 0 1 (.op 1), .sl (τ 559) 0 6 (.op 13)], .bool true], σ') ∧ P5 τ σ' ∧ Fr Nowhere σ σ' := by
 obtain ⟨ρ, hf, hr⟩ := hit_of (l := [eT3, eT5]) (e := eT5) (F := BD E 200000 (TW E d) 13) (by simp) (fits_of (e := eT5) (ρ := fun x => x) (args := [.str txt5]) (σ := σ) (by rw [txt5_is]; rfl) Has.nil Inj.nil) (by
  intro e' he hk
  rcases List.mem_cons.1 he with rfl | he
  ·rw [txt3_is, txt5_is] at hk; exact absurd hk (by decide +kernel)
  ·exact List.mem_singleton.1 he)
 exact ⟨eT5.to ρ σ, _, by rw [DE13, hr]; rfl, ⟨Few.to_inj eT5_shape hf ht, Few.has eT5_shape hf ht⟩, Few.fr0 eT5_shape (by kernel_rfl) hf ht⟩
end
noncomputable section
def thP (is : Nat → Bool) (k : Nat) : Bool := is k || k == 1
def gP (is : Nat → Bool) (w : Nat → Nat) (k : Nat) : Vc := if thP is k = true then Vc.int (Int.ofNat (w k)) else Vc.abs
def abP (is : Nat → Bool) (k : Nat) : Bool := !thP is k
def XP (w : Nat → Nat) (k : Nat) : List Nat := bitsOf 3 (w k)
def laterP (is : Nat → Bool) (S : List Nat) : Bool := decide (0 < 0) || (S.map fun k => !abP is k).any id
theorem gP_leaf (is : Nat → Bool) (w : Nat → Nat) (k : Nat) : (gP is w k).l = .nils ∧ (gP is w k).r = Int.ofNat 0 := by
 unfold gP; split <;> exact ⟨rfl, rfl⟩
theorem XP_few (w : Nat → Nat) (k : Nat) : (XP w k).length ≤ 1000 := by unfold XP; rw [bitsOf_length]; decide
section
variable {E : List (Nat × Blk)} {is : Nat → Bool} {w : Nat → Nat} {n : Nat} {more : Bool} {tg : Nat → Nat} {tb fb : Nat} {nv rv : V} {P : H → Prop} {S : List Nat}
theorem tyP_s {k : Nat} : tyP n more tg fb (k + 1) = ty7 (tg (k + 1)) := if_neg (by omega)
theorem xAb (d : Nat) (n : Nat) : SpAb (TW E (d + 2) 158) n (gP is w) (abP is) := by
 intro σ k hk ht
 obtain ⟨σ', g, f⟩ := xAbs (E := E) d ht (gP is w k) (nb := 0) (nl := 0) (nm := 0) (by unfold gP; split <;> exact Len.nils) (by unfold gP; split <;> exact Len.nils) (by unfold gP; split <;> exact Len.nils)
 refine ⟨σ', ?_, f⟩
 rw [g]
 unfold abP gP
 cases thP is k <;> rfl
theorem xFds (d : Nat) (n : Nat) (hw : ∀ k, w k ≤ 7) : Fds (TW E (d + 6) 39) (n + 1) (tyP n more tg fb) n fdP (gP is w) (abP is) (XP w) := by
 refine ⟨fun k hk ha => ⟨k + 1, rfl, ?_⟩, XP_few w⟩
 have h : thP is k = true := by unfold abP at ha; cases h : thP is k <;> simp_all
 unfold gP
 rw [if_pos h]
 exact xVInt d (by omega) (by rw [tyP_s]; rfl) (by rw [tyP_s]; rfl) (hw k)
theorem xFq (d : Nat) (n : Nat) (σ : H) (q k : Nat) (l : V) (hl : l.one = true) (r : Int) (mv : V) (hm : mv.one = true) (ht : Tidy σ) (hr : Row σ 6 n l fun k => (gP is w k).c) (hk : k < n) (aq : Atc σ q (Vc.sq l hl r mv hm).c) :
  ∃ σ', TW E (d + 3) 157 ([] ++ [.int .i64 (Int.ofNat k)] ++ [.ptr q 0]) σ = some (.bool (!abP is k), σ') ∧ Fr Nowhere σ σ' := by
 rw [DE157]
 exact efieldsq_F (xAb d n) ht hr hk aq
theorem seqP {σ : H} (t : TabP E P n more S tg tb fb nv rv) (hn : n ≤ 5) (h : P σ) : SeqTy σ (tyP n more tg fb 0) n fdP := ⟨rfl, Row.flat (fun _ => rfl) (t.fields σ h), by omega⟩
theorem tbP {σ : H} (t : TabP E P n more S tg tb fb nv rv) (h : P σ) : Tb σ (n + 1) (tyP n more tg fb) nv rv (.sl tb 0 (n + 1) (.op 13)) := ⟨Row.flat (fun _ => rfl) (t.types σ h), t.n1, t.r1, rfl⟩
theorem fitP (d : Nat) (t : TabP E P n more S tg tb fb nv rv) (hn : 3 ≤ n ∧ n ≤ 5) (hS : ∀ k ∈ S, 3 ≤ k ∧ k < n) (hSl : S.length ≤ 64) (hw : ∀ k, w k ≤ 7) {l : V} (hl : l.one = true) {σ : H} (ht : Tidy σ) (hP : P σ) (hr : Row σ 6 n l fun k => (gP is w k).c) :
  ∃ σ', TW E (d + 12) 36 [.agg [.str ⟨1, 77⟩, nv, rv, .sl tb 0 (n + 1) (.op 13)], .int .i64 (Int.ofNat 0), .agg (Vc.sq l hl (Int.ofNat 0) .nils rfl).c] σ = some (.bool true, σ') ∧ Fr Nowhere σ σ' := by
 rw [DE36]
 have T := tbP t hP
 refine Fits_F (n := 1 + n) (by omega) ht T.row t.n1 t.r1 rfl (fun σ2 p h2 f2 hc => ?_) (fun σ2 h2 f2 => ?_)
 ·have hP2 := t.fr _ _ ht f2 hP
  obtain ⟨σ3, e3, f3, a3, n3⟩ := mk_new h2 (Vc.sq l hl (Int.ofNat 0) .nils rfl).c
  have f03 := f2.trans f3 (fun _ _ h => h)
  have hP3 := t.fr _ _ ht f03 hP
  obtain ⟨σ4, g4, f4⟩ : ∃ σ4, TW E (d + 10) 136 [.ptr p 0, .int .i64 (Int.ofNat 0), .agg (Vc.sq l hl (Int.ofNat 0) .nils rfl).c, .int .i64 (Int.ofNat 1)] σ3 = some (.bool true, σ4) ∧ Fr Nowhere σ3 σ4 := by
   rw [DE136]
   have hc3 := hc.fr f3 h2
   refine fields_F (hl := hl) (g := gP is w) (xPlain (d + 8)) (xAbs (d + 7)) (xLoose (d + 8)) (fun k hk => ?_) (by decide) (by omega) (by omega) Len.nils (fun σ9 h9 f9 => xRaws (d + 8) h9 (hc3.fr f9 f3.tidy) (by omega) _ rfl rfl) (fun σ9 h9 f9 => ?_) f3.tidy hc3 (seqP t hn.2 hP3) (hr.fr0 f03 ht)
   ·unfold gP
    by_cases hth : thP is k = true
    ·rw [if_pos hth]
     refine .inr ⟨rfl, rfl, k + 1, rfl, xFitI (d + 7) (by omega) (by rw [tyP_s]; rfl) ?_⟩
     rw [tyP_s]
     show (false || withinB true true true (Int.ofNat 0) (Int.ofNat 7) (Int.ofNat (w k))) = true
     unfold withinB
     rw [leF_nat, leF_nat, decide_eq_true (Nat.zero_le _), decide_eq_true (hw k)]; rfl
    ·rw [if_neg hth]
     refine .inl ⟨rfl, ?_⟩
     have h1 : k ≠ 1 := fun e => hth (by unfold thP; rw [e]; simp)
     show (((k == 0 || k == 2) || false) || leF (Int.ofNat 3) (Int.ofNat k)) = true
     rw [leF_nat]
     by_cases h3 : 3 ≤ k
     ·rw [decide_eq_true h3, Bool.or_true]
     ·have : k = 0 ∨ k = 2 := by omega
      rcases this with rfl | rfl <;> rfl
   ·rw [DE233]
    have hP9 := t.fr _ _ f3.tidy f9 hP3
    exact groups_F t.fr (t.slots (d + 7)) (by omega) (by omega) h9 hP9 (hc3.fr f9 f3.tidy) (by omega) (seqP t hn.2 hP9) (fun k hk => (hS k hk).2) (fun k hk => rfl) _
  refine ⟨σ4, ?_, f3.trans f4 (fun _ _ h => h)⟩
  rw [DE65]
  exact fitsSeq_F h2 hc (by omega) (by decide) rfl e3 g4
 ·exact xCount (d + 9) h2 (hr.fr0 f2 ht) (by omega) (fun k _ => (gP_leaf is w k).1)
theorem encP (d : Nat) (t : TabP E P n more S tg tb fb nv rv) (hn : 3 ≤ n ∧ n ≤ 5) (hS : ∀ k ∈ S, 3 ≤ k ∧ k < n) (hSl : S.length ≤ 64) (hw : ∀ k, w k ≤ 7) {l : V} (hl : l.one = true) (hb : V.beq l l = true) {σ : H} (ht : Tidy σ) (hP : P σ) (hr : Row σ 6 n l fun k => (gP is w k).c)
    (hZ : 0 < (fieldB (tyP n more tg fb 0) fdP (abP is) (XP w) [0, 1, 2] (laterP is S) (addsY (abP is) (XP w) S)).length) (hZ' : (fieldB (tyP n more tg fb 0) fdP (abP is) (XP w) [0, 1, 2] (laterP is S) (addsY (abP is) (XP w) S)).length ≤ 500000) :
    ∃ b σ', TW E (d + 13) 15 [.agg [.str ⟨1, 77⟩, nv, rv, .sl tb 0 (n + 1) (.op 13)], .int .i64 (Int.ofNat 0), .agg (Vc.sq l hl (Int.ofNat 0) .nils rfl).c] σ = some (.tup [b, .int .i64 (Int.ofNat 0)], σ') ∧
      Nb σ σ' b (nI (pack (fieldB (tyP n more tg fb 0) fdP (abP is) (XP w) [0, 1, 2] (laterP is S) (addsY (abP is) (XP w) S)))) ∧ Fr Nowhere σ σ' := by
  rw [DE15]
  have hsn : ∀ k ∈ S, k < n := fun k hk => (hS k hk).2
  refine enc_F ht t.n1 t.r1 rfl hZ hZ' (fun σ1 h1 f1 => fitP d t hn hS hSl hw hl h1 (t.fr _ _ ht f1 hP) (hr.fr0 f1 ht)) (fun σ1 h1 f1 => t.rooted (d + 11) σ1 h1 (t.fr _ _ ht f1 hP)) (fun σ1 h1 f1 => xRules (d + 5) h1 (hr.fr0 f1 ht) rfl (by omega) (fun k _ => gP_leaf is w k)) (fun σ0 σ1 eb wb h0 f0 wk => ?_) (xWB (d + 9))
  have hP0 := t.fr _ _ ht f0 hP
  have T0 := tbP t hP0
  have hr0 := hr.fr0 f0 ht
  rw [DE39]
  suffices hh : ∀ σ2, Wk σ0 σ2 eb wb .nils [.str ⟨1, 77⟩, nv, rv, .sl tb 0 (n + 1) (.op 13)] [] → ∃ u' σ', TW E (d + 11) 84 [.ptr eb 0, .int .i64 (Int.ofNat 0), .agg (Vc.sq l hl (Int.ofNat 0) .nils rfl).c] σ2 = some (.tup [], σ') ∧ Pst σ2 wb .nils σ' u' ([] ++ fieldB (tyP n more tg fb 0) fdP (abP is) (XP w) [0, 1, 2] (laterP is S) (addsY (abP is) (XP w) S)) by
    have := vseq_e (E := E) (W := drawW E (TW E (d + 11))) (N := 200000) (by omega) rfl h0 T0 wk hh
    rwa [List.nil_append] at this
  intro σ2 wk2
  rw [DE84]
  have key := fields_e (E := E) (D := TW E (d + 10)) (D' := TW E (d + 8)) (N := 200000) (ab := abP is) (X := XP w) (K := [0, 1, 2]) (S := S) (g := gP is w) (hl := hl) (r := Int.ofNat 0) (hm := rfl) (nm' := 0) (Y := addsY (abP is) (XP w) S) t.fr (t.slots (d + 9)) (xAb (d + 8) n) (xCfI (d + 8)) (fun σ q k l hl r mv hm => xFq (d + 5) n σ q k l hl r mv hm) (xCB (d + 8)) (xFl (d + 6)) (t.order (d + 9)) (xSome (d + 3) (xAb (d + 7) n) (xFds (d + 3) n hw)) Len.nils
    (fun hla => xAdds (d + 1) (xFds (d + 1) n hw) (fun k _ _ => by unfold XP; rw [bitsOf_length]; decide) hsn hSl (by
      rcases Nat.eq_zero_or_pos S.length with h | h
      · rw [List.eq_nil_of_length_eq_zero h] at hla; cases hla
      · exact h) (fun k hk => rfl) (fun k hk => beq_self _ rfl) rfl)
    hsn (by omega) (fun k hk => by simp only [List.mem_cons, List.not_mem_nil, or_false] at hk; omega) (by decide) (XP_few w) (by decide) h0 hP0 T0 (by omega) (seqP t hn.2 hP0) hr0 wk2 (by decide) (beq_self _ rfl) (by simp [Vc.sq, Vc.c, V.beq, beqs, hb]) (by simp [V.beq, beqs, t.b1, t.b2]) (fun σ sv bl h => by
      rcases h.row.is with ⟨_, rfl⟩ | ⟨b, c, M, rfl, _⟩
      · rfl
      · exact beq_self _ rfl)
  exact key
end
end
noncomputable section
structure Arg (E : List (Nat × Blk)) (v : V) (n blk : Nat) (f : Nat → V) : Prop where
 len : ∀ κ : Nat → Ans, slenK v κ = κ n
 rd : ∀ (σ : H) (i : Nat) (κ : V → Ans), i < n → lookF σ.bl blk = none → iaddrSK 1 v (Int.ofNat i) (fun b o => ldK E σ b o κ) = κ (f i)
 one : v.one = true
structure Lw (v0 v1 : V) (q0 q1 : Nat) (σ : H) : Prop where
 a0 : Atc σ q0 [v0]
 a1 : Atc σ q1 [v1]
 n0 : lookF σ.bl 50 = none
 n1 : lookF σ.bl 51 = none
 lt : 100 ≤ σ.next
theorem Lw.fr {v0 v1 : V} {q0 q1 : Nat} {σ σ' : H} (h : Lw v0 v1 q0 q1 σ) (f : Fr Nowhere σ σ') (ht : Tidy σ) : Lw v0 v1 q0 q1 σ' :=
 ⟨f.at_ h.a0 ht (fun h => h), f.at_ h.a1 ht (fun h => h), by rw [f.same 50 (by have := h.lt; omega) (fun h => h)]; exact h.n0, by rw [f.same 51 (by have := h.lt; omega) (fun h => h)]; exact h.n1, Nat.le_trans h.lt f.le⟩
def val8 (vals : Nat → Int) (nv i : Nat) : Nat := if i < nv then (vals i % 18446744073709551616).toNat % 8 else 0
theorem val8_le (vals : Nat → Int) (nv i : Nat) : val8 vals nv i ≤ 7 := by unfold val8; split <;> omega
theorem bits1 (c : Bool) : bitsOf 1 (bitB c) = [bitB c] := by cases c <;> rfl
section
variable {E : List (Nat × Blk)} {D : Den} {W : DrawFn} {N : Nat} {v0 v1 : V} {q0 q1 nb nvs : Nat} {there : Nat → Bool} {vals : Nat → Int} {σ : H}
theorem is_F (h0 : Arg E v0 nb 50 fun i => .bool (there i)) (hth : ∀ i, nb ≤ i → there i = false) (h : Lw v0 v1 q0 q1 σ) (i : Nat) : F17 E D W N ([] ++ [.int .i64 (Int.ofNat i)] ++ [.ptr q0 0]) σ = some (.bool (there i), σ) := by
 have a := h.a0
 have hl := h0.len
 show T17_0 E D W (Int.ofNat i) (.ptr q0 0) σ = _
 unfold T17_0
 by_cases hi : i < nb
 ·have rd : ∀ κ, iaddrSK 1 v0 (Int.ofNat i) (fun b o => ldK E σ b o κ) = κ (.bool (there i)) := fun κ => h0.rd σ i κ hi h.n0
  simp -implicitDefEqProofs only [↓rP, rS, rQ, decide_false, decide_true, Nat.reduceEqDiff, Nat.reduceLT, Nat.reduceLeDiff, ↓ldK_is a, ↓hl, decide_eq_true hi, ↓rd]
 ·simp -implicitDefEqProofs only [↓rP, rS, rQ, decide_false, decide_true, Nat.reduceEqDiff, Nat.reduceLT, Nat.reduceLeDiff, ↓ldK_is a, ↓hl, decide_eq_false hi]
  rw [hth i (by omega)]
theorem at_F (h1 : Arg E v1 nvs 51 fun i => .int .i64 (vals i)) (h : Lw v0 v1 q0 q1 σ) (i : Nat) : F18 E D W N ([] ++ [.int .i64 (Int.ofNat i)] ++ [.ptr q1 0]) σ = some (.int .u64 (Int.ofNat (val8 vals nvs i)), σ) := by
 have a := h.a1
 have hl := h1.len
 show T18_0 E D W (Int.ofNat i) (.ptr q1 0) σ = _
 unfold T18_0
 by_cases hi : i < nvs
 ·have rd : ∀ κ, iaddrSK 1 v1 (Int.ofNat i) (fun b o => ldK E σ b o κ) = κ (.int .i64 (vals i)) := fun κ => h1.rd σ i κ hi h.n1
  simp -implicitDefEqProofs only [↓rP, rS, rQ, decide_false, decide_true, Nat.reduceEqDiff, Nat.reduceLT, Nat.reduceLeDiff, ↓ldK_is a, ↓hl, decide_eq_true hi, ↓rd]
  have e : Int.tmod (wrapF .u64 (vals i)) (Int.ofNat 8) = Int.ofNat (val8 vals nvs i) := by
   unfold val8
   rw [if_pos hi, wrap_u64]
   have hp : 0 ≤ vals i % 18446744073709551616 := Int.emod_nonneg _ (by decide)
   obtain ⟨m, hm⟩ := Int.eq_ofNat_of_zero_le hp
   rw [hm]; rfl
  rw [e]
 ·simp -implicitDefEqProofs only [↓rP, rS, rQ, decide_false, decide_true, Nat.reduceEqDiff, Nat.reduceLT, Nat.reduceLeDiff, ↓ldK_is a, ↓hl, decide_eq_false hi]
  unfold val8; rw [if_neg hi]
theorem bit_F (c : Bool) : F19 E D W N ([] ++ [.bool c] ++ []) σ = some (.int .u64 (Int.ofNat (bitB c)), σ) := by
 show T19_0 E D W c σ = _
 cases c <;> rfl
def SpIs (D : Den) (there : Nat → Bool) (v0 v1 : V) (q0 q1 : Nat) : Prop := ∀ (σ : H) (i : Nat), Lw v0 v1 q0 q1 σ → D 17 ([] ++ [.int .i64 (Int.ofNat i)] ++ [.ptr q0 0]) σ = some (.bool (there i), σ)
def SpAt (D : Den) (w : Nat → Nat) (v0 v1 : V) (q0 q1 : Nat) : Prop := ∀ (σ : H) (i : Nat), Lw v0 v1 q0 q1 σ → D 18 ([] ++ [.int .i64 (Int.ofNat i)] ++ [.ptr q1 0]) σ = some (.int .u64 (Int.ofNat (w i)), σ)
variable {w : Nat → Nat}
theorem cIs (h : SpIs D there v0 v1 q0 q1) (l : Lw v0 v1 q0 q1 σ) (i : Nat) (κ : V → H → Ans) : callvK D (.fn 17 [] [.ptr q0 0]) [.int .i64 (Int.ofNat i)] σ κ = κ (.bool (there i)) σ := by
 show callK (D 17 ([] ++ [.int .i64 (Int.ofNat i)] ++ [.ptr q0 0]) σ) κ = _
 rw [h σ i l]; rfl
theorem cAt (h : SpAt D w v0 v1 q0 q1) (l : Lw v0 v1 q0 q1 σ) (i : Nat) (κ : V → H → Ans) : callvK D (.fn 18 [] [.ptr q1 0]) [.int .i64 (Int.ofNat i)] σ κ = κ (.int .u64 (Int.ofNat (w i))) σ := by
 show callK (D 18 ([] ++ [.int .i64 (Int.ofNat i)] ++ [.ptr q1 0]) σ) κ = _
 rw [h σ i l]; rfl
def SpBt (D : Den) : Prop := ∀ (σ : H) (c : Bool), D 19 ([] ++ [.bool c] ++ []) σ = some (.int .u64 (Int.ofNat (bitB c)), σ)
theorem cBt (h : SpBt D) (c : Bool) (κ : V → H → Ans) : callvK D (.fn 19 [] []) [.bool c] σ κ = κ (.int .u64 (Int.ofNat (bitB c))) σ := by
 show callK (D 19 ([] ++ [.bool c] ++ []) σ) κ = _
 rw [h σ c]; rfl
theorem loopV (hI : SpIs D there v0 v1 q0 q1) (hA : SpAt D w v0 v1 q0 q1) (hw : ∀ k, w k ≤ 7) {σ0 : H} (ht0 : Tidy σ0) (lw : Lw v0 v1 q0 q1 σ0) {n : Nat} (hn : n ≤ 5) {more ok : Bool} {nm : BS} {nv rv tv : V} :
  ∀ (m n' i : Nat) (l : V) (σ : H), i + m = n → m < n' → Fr Nowhere σ0 σ → Nw σ0 σ 6 i l (flatR i fun k => (gP there w k).c) →
   ∃ l' σ', L4_4 E D W N n' more (.fn 17 [] [.ptr q0 0]) (.fn 18 [] [.ptr q1 0]) ok (Int.ofNat n) (Int.ofNat i) nm nv rv tv (Int.ofNat 7) (Int.ofNat 0) .nils l (Int.ofNat 0) .nils σ =
    J4_3 E D W N more (.fn 17 [] [.ptr q0 0]) (.fn 18 [] [.ptr q1 0]) ok nm nv rv tv (Int.ofNat 7) (Int.ofNat 0) .nils l' (Int.ofNat 0) .nils σ' ∧ Fr Nowhere σ0 σ' ∧ Nw σ0 σ' 6 n l' (flatR n fun k => (gP there w k).c) := by
 intro m
 induction m with
 | zero =>
  intro n' i l σ hi hn' f0 hl
  obtain ⟨n', rfl⟩ : ∃ k, n' = k + 1 := ⟨n' - 1, by omega⟩
  obtain rfl : i = n := by omega
  refine ⟨l, σ, ?_, f0, hl⟩
  have k0 : ∀ K3 K6, T4_4 E D W K3 K6 more (.fn 17 [] [.ptr q0 0]) (.fn 18 [] [.ptr q1 0]) ok (Int.ofNat i) (Int.ofNat i) nm nv rv tv (Int.ofNat 7) (Int.ofNat 0) .nils l (Int.ofNat 0) .nils σ = K3 more (.fn 17 [] [.ptr q0 0]) (.fn 18 [] [.ptr q1 0]) ok nm nv rv tv (Int.ofNat 7) (Int.ofNat 0) .nils l (Int.ofNat 0) .nils σ := by
   intro K3 K6
   unfold T4_4
   rw [ltF_nat, decide_eq_false (by omega), condK_false]
  exact k0 _ _
 | succ m ih =>
  intro n' i l σ hi hn' f0 hl
  obtain ⟨n', rfl⟩ : ∃ k, n' = k + 1 := ⟨n' - 1, by omega⟩
  have hlt : i < n := by omega
  have d1 : decide (i < n) = true := decide_eq_true hlt
  have lw1 := lw.fr f0 ht0
  have ci : ∀ κ : V → H → Ans, callvK D (.fn 17 [] [.ptr q0 0]) [.int .i64 (Int.ofNat i)] σ κ = κ (.bool (there i)) σ := fun κ => cIs hI lw1 i κ
  have ca : ∀ κ : V → H → Ans, callvK D (.fn 18 [] [.ptr q1 0]) [.int .i64 (Int.ofNat i)] σ κ = κ (.int .u64 (Int.ofNat (w i))) σ := fun κ => cAt hA lw1 i κ
  have ew : wrapF .i64 (Int.ofNat (w i)) = Int.ofNat (w i) := wrapF_nat (by rw [maxN_i64]; have := hw i; omega)
  have k1 : ∀ K3 K6, T4_4 E D W K3 K6 more (.fn 17 [] [.ptr q0 0]) (.fn 18 [] [.ptr q1 0]) ok (Int.ofNat n) (Int.ofNat i) nm nv rv tv (Int.ofNat 7) (Int.ofNat 0) .nils l (Int.ofNat 0) .nils σ =
    K6 more (.fn 17 [] [.ptr q0 0]) (.fn 18 [] [.ptr q1 0]) ok (Int.ofNat n) (Int.ofNat i) nm nv rv tv (Int.ofNat 7) (Int.ofNat 0) .nils l (Int.ofNat 0) .nils (gP there w i).k (gP there w i).n (gP there w i).b (gP there w i).l (gP there w i).r (gP there w i).m σ := by
   intro K3 K6
   unfold T4_4
   by_cases h1 : thP there i = true
   ·have eg : gP there w i = Vc.int (Int.ofNat (w i)) := if_pos h1
    rw [eg]
    unfold thP at h1
    by_cases h2 : there i = true
    ·rw [h2] at ci
     simp -implicitDefEqProofs only [↓rP, rS, rQ, decide_false, decide_true, Nat.reduceEqDiff, Nat.reduceLT, Nat.reduceLeDiff, d1, ↓ci, ↓ca, ew]
     rfl
    ·have h2' : there i = false := by cases h : there i <;> simp_all
     rw [h2', Bool.false_or] at h1
     have h3 : i = 1 := by simpa using h1
     have d3 : decide (i = 1) = true := decide_eq_true h3
     rw [h2'] at ci
     simp -implicitDefEqProofs only [↓rP, rS, eqF_nat, ltF_nat, d1, ↓ci, d3, ↓ca, ew]
     rfl
   ·have eg : gP there w i = Vc.abs := if_neg h1
    rw [eg]
    unfold thP at h1
    have h2' : there i = false := by cases h : there i <;> simp_all
    rw [h2', Bool.false_or] at h1
    have h3 : i ≠ 1 := by simpa using h1
    have d3 : decide (i = 1) = false := decide_eq_false h3
    rw [h2'] at ci
    simp -implicitDefEqProofs only [↓rP, rS, eqF_nat, ltF_nat, d1, ↓ci, d3]
    rfl
  obtain ⟨σ2, e2, f2, a2, n2⟩ := mk_new f0.tidy (gP there w i).c
  have f02 := f0.trans f2 (fun _ _ h => h)
  have xs : Src σ2 6 1 (V.sl σ.next 0 1 (.ex 1)) (gP there w i).c := .inr ⟨_, _, _, _, rfl, a2, Nat.le_refl _, rfl⟩
  have oc : allOne (gP there w i).c = true := by unfold gP; split <;> rfl
  obtain ⟨l3, σ3, g3, h3, f3⟩ := nw_app (E := E) (bytes := 96) (hl.fr f2 f0.tidy) f02 xs oc (by unfold growable; simp only [Bool.and_eq_true, Nat.ble_eq]; omega)
  rw [← flatR_succ i fun k => (gP there w k).c] at h3
  obtain ⟨l4, σ4, g4, f4, h4⟩ := ih n' (i + 1) l3 σ3 (by omega) (by omega) f3 h3
  refine ⟨l4, σ4, (k1 _ _).trans (Eq.trans ?_ g4), f4, h4⟩
  show T4_6 E D W (T4_5 E D W (L4_4 E D W N n')) more _ _ ok (Int.ofNat n) (Int.ofNat i) nm nv rv tv (Int.ofNat 7) (Int.ofNat 0) .nils l (Int.ofNat 0) .nils _ _ _ _ _ _ σ = _
  have k6 : ∀ K5, T4_6 E D W K5 more (.fn 17 [] [.ptr q0 0]) (.fn 18 [] [.ptr q1 0]) ok (Int.ofNat n) (Int.ofNat i) nm nv rv tv (Int.ofNat 7) (Int.ofNat 0) .nils l (Int.ofNat 0) .nils (gP there w i).k (gP there w i).n (gP there w i).b (gP there w i).l (gP there w i).r (gP there w i).m σ = K5 more (.fn 17 [] [.ptr q0 0]) (.fn 18 [] [.ptr q1 0]) ok (Int.ofNat n) (Int.ofNat i) nm nv rv tv (Int.ofNat 7) (Int.ofNat 0) .nils l3 (Int.ofNat 0) .nils σ3 := by
   intro K5
   unfold T4_6
   unfold Vc.c at e2
   simp -implicitDefEqProofs only [↓rP, rS, (gP there w i).oneB, (gP there w i).oneL, (gP there w i).oneM, ↓e2, ↓g3, ↓rtOne_of h3.1.one]
  rw [k6]
  unfold T4_5
  rw [addF_nat (by omega)]
end
end
noncomputable section
structure Rk (σ0 σ : H) (w : Nat) (u : V) (L : List Nat) : Prop where
 wr : Wr σ w u L
 f : Fr Nowhere σ0 σ
 lo : ∀ b, Own1 w u b → σ0.next ≤ b
section
variable {σ0 σ σ1 : H} {w : Nat} {u u1 : V} {L L1 : List Nat}
theorem Rk.step (k : Rk σ0 σ w u L) (s : Wst σ w u σ1 u1 L1) : Rk σ0 σ1 w u1 L1 := by
 refine ⟨s.wr, k.f.trans s.f (fun b hb hn => ?_), fun b hb => ?_⟩
 ·have := k.lo b hn; omega
 ·rcases hb with hb | hb
  ·exact k.lo b (.inl hb)
  ·rcases s.g b hb with h | h
   ·exact k.lo b (.inr h)
   ·exact Nat.le_trans k.f.le h
end
def refB (is : Nat → Bool) (w : Nat → Nat) : Nat → Nat → List Nat
 | 0, _ => []
 | m + 1, i => (if thP is i = true then bitsOf 3 (w i) else []) ++ refB is w m (i + 1)
def refA (is : Nat → Bool) (w : Nat → Nat) : Nat → Nat → List Nat
 | 0, _ => []
 | m + 1, i => (if is i = true then detBits 1 ++ bitsO [w i * 32] else []) ++ refA is w m (i + 1)
theorem refB_len (is : Nat → Bool) (w : Nat → Nat) : ∀ m i, (refB is w m i).length ≤ 3 * m
 | 0, _ => Nat.le_refl _
 | m + 1, i => by
  have := refB_len is w m (i + 1)
  rw [refB, List.length_append]
  split
  ·rw [bitsOf_length]; omega
  ·rw [List.length_nil]; omega
theorem refB_bin (is : Nat → Bool) (w : Nat → Nat) : ∀ m i, Bin (refB is w m i)
 | 0, _ => fun b hb => by cases hb
 | m + 1, i => fun b hb => by
  rw [refB] at hb
  rcases List.mem_append.1 hb with h | h
  ·split at h
   ·exact bitsOf_bin _ _ b h
   ·cases h
  ·exact refB_bin is w m (i + 1) b h
theorem refA_len (is : Nat → Bool) (w : Nat → Nat) : ∀ m i, (refA is w m i).length ≤ 16 * m
 | 0, _ => Nat.le_refl _
 | m + 1, i => by
  have := refA_len is w m (i + 1)
  rw [refA, List.length_append]
  split
  ·have h : (detBits 1 ++ bitsO [w i * 32]).length = 16 := by rw [List.length_append, bitsO_length]; rfl
   rw [h]; omega
  ·rw [List.length_nil]; omega
theorem refA_bin (is : Nat → Bool) (w : Nat → Nat) : ∀ m i, Bin (refA is w m i)
 | 0, _ => fun b hb => by cases hb
 | m + 1, i => fun b hb => by
  rw [refA] at hb
  rcases List.mem_append.1 hb with h | h
  ·split at h
   ·rcases List.mem_append.1 h with h | h
    ·exact bitsOf_bin 8 1 b h
    ·exact bitsO_bin _ b h
   ·cases h
  ·exact refA_bin is w m (i + 1) b h
section
variable {E : List (Nat × Blk)} {D : Den} {W : DrawFn} {N : Nat} {v0 v1 : V} {q0 q1 : Nat} {is : Nat → Bool} {w : Nat → Nat} {ok later : Bool} {nm : BS} {nv rv tv l : V}
theorem loopB (hI : SpIs D is v0 v1 q0 q1) (hA : SpAt D w v0 v1 q0 q1) (hB : SpBits (D 20)) (hw : ∀ k, w k ≤ 7) {σ0 : H} (ht0 : Tidy σ0) (lw : Lw v0 v1 q0 q1 σ0) {wb : Nat} :
  ∀ (m n' i : Nat) (u : V) (σ : H) (L : List Nat), i + m = 3 → m < n' → Rk σ0 σ wb u L → L.length + 3 * m < 8000000 →
   ∃ u' σ', L4_9 E D W N n' (.fn 17 [] [.ptr q0 0]) (.fn 18 [] [.ptr q1 0]) ok (.fn 19 [] []) wb 0 later (Int.ofNat i) nm nv rv tv (Int.ofNat 7) (Int.ofNat 0) .nils l (Int.ofNat 0) .nils σ =
    J4_8 E D W N (.fn 17 [] [.ptr q0 0]) (.fn 18 [] [.ptr q1 0]) ok (.fn 19 [] []) wb 0 later nm nv rv tv (Int.ofNat 7) (Int.ofNat 0) .nils l (Int.ofNat 0) .nils σ' ∧ Wst σ wb u σ' u' (L ++ refB is w m i) := by
 intro m
 induction m with
 | zero =>
  intro n' i u σ L hi hn' k hl
  obtain ⟨n', rfl⟩ : ∃ k, n' = k + 1 := ⟨n' - 1, by omega⟩
  refine ⟨u, σ, ?_, by rw [refB, List.append_nil]; exact Wst.refl k.wr k.f.tidy⟩
  have k0 : ∀ K8 K10, T4_9 E D W K8 K10 (.fn 17 [] [.ptr q0 0]) (.fn 18 [] [.ptr q1 0]) ok (.fn 19 [] []) wb 0 later (Int.ofNat i) nm nv rv tv (Int.ofNat 7) (Int.ofNat 0) .nils l (Int.ofNat 0) .nils σ = K8 (.fn 17 [] [.ptr q0 0]) (.fn 18 [] [.ptr q1 0]) ok (.fn 19 [] []) wb 0 later nm nv rv tv (Int.ofNat 7) (Int.ofNat 0) .nils l (Int.ofNat 0) .nils σ := by
   intro K8 K10
   unfold T4_9
   rw [ltF_nat, decide_eq_false (by omega), condK_false]
  exact k0 _ _
 | succ m ih =>
  intro n' i u σ L hi hn' k hl
  obtain ⟨n', rfl⟩ : ∃ k, n' = k + 1 := ⟨n' - 1, by omega⟩
  have d1 : decide (i < 3) = true := decide_eq_true (by omega)
  have lw1 := lw.fr k.f ht0
  have ci : ∀ κ : V → H → Ans, callvK D (.fn 17 [] [.ptr q0 0]) [.int .i64 (Int.ofNat i)] σ κ = κ (.bool (is i)) σ := fun κ => cIs hI lw1 i κ
  have ca : ∀ κ : V → H → Ans, callvK D (.fn 18 [] [.ptr q1 0]) [.int .i64 (Int.ofNat i)] σ κ = κ (.int .u64 (Int.ofNat (w i))) σ := fun κ => cAt hA lw1 i κ
  obtain ⟨u2, σ2, g2, s2⟩ : ∃ u2 σ2, (∀ K8 K10, T4_9 E D W K8 K10 (.fn 17 [] [.ptr q0 0]) (.fn 18 [] [.ptr q1 0]) ok (.fn 19 [] []) wb 0 later (Int.ofNat i) nm nv rv tv (Int.ofNat 7) (Int.ofNat 0) .nils l (Int.ofNat 0) .nils σ = K10 (.fn 17 [] [.ptr q0 0]) (.fn 18 [] [.ptr q1 0]) ok (.fn 19 [] []) wb 0 later (Int.ofNat i) nm nv rv tv (Int.ofNat 7) (Int.ofNat 0) .nils l (Int.ofNat 0) .nils σ2) ∧
    Wst σ wb u σ2 u2 (L ++ (if thP is i = true then bitsOf 3 (w i) else [])) := by
   by_cases h1 : thP is i = true
   ·rw [if_pos h1]
    have hwi := hw i
    obtain ⟨u2, σ2, g2, s2⟩ := hB σ wb u L (w i) 3 k.wr k.f.tidy (by omega) (by omega) (by decide)
    refine ⟨u2, σ2, fun K8 K10 => ?_, s2⟩
    unfold T4_9
    unfold thP at h1
    by_cases h2 : is i = true
    ·rw [h2] at ci
     simp -implicitDefEqProofs only [↓rP, rS, eqF_nat, ltF_nat, d1, ↓ci, ↓ca, ↓g2]
    ·have h2' : is i = false := by cases h : is i <;> simp_all
     rw [h2', Bool.false_or] at h1
     have d3 : decide (i = 1) = true := decide_eq_true (by simpa using h1)
     rw [h2'] at ci
     simp -implicitDefEqProofs only [↓rP, rS, eqF_nat, ltF_nat, d1, ↓ci, d3, ↓ca, ↓g2]
   ·rw [if_neg h1, List.append_nil]
    refine ⟨u, σ, fun K8 K10 => ?_, Wst.refl k.wr k.f.tidy⟩
    unfold T4_9
    unfold thP at h1
    have h2' : is i = false := by cases h : is i <;> simp_all
    rw [h2', Bool.false_or] at h1
    have d3 : decide (i = 1) = false := decide_eq_false (by simpa using h1)
    rw [h2'] at ci
    simp -implicitDefEqProofs only [↓rP, rS, eqF_nat, ltF_nat, d1, ↓ci, d3]
  have hlen : (L ++ (if thP is i = true then bitsOf 3 (w i) else [])).length ≤ L.length + 3 := by
   rw [List.length_append]; split
   ·rw [bitsOf_length]; omega
   ·rw [List.length_nil]; omega
  obtain ⟨u3, σ3, g3, s3⟩ := ih n' (i + 1) u2 σ2 _ (by omega) (by omega) (k.step s2) (by omega)
  refine ⟨u3, σ3, (g2 _ _).trans (Eq.trans ?_ g3), ?_⟩
  ·show T4_10 E D W (L4_9 E D W N n') _ _ ok _ wb 0 later (Int.ofNat i) nm nv rv tv (Int.ofNat 7) (Int.ofNat 0) .nils l (Int.ofNat 0) .nils σ2 = _
   unfold T4_10
   rw [addF_nat (by omega)]
  ·have := s2.trans s3
   rw [List.append_assoc] at this
   rw [refB]; exact this
theorem loopA (hI : SpIs D is v0 v1 q0 q1) (hA : SpAt D w v0 v1 q0 q1) (hP : SpPut E (D 21)) (hw : ∀ k, w k ≤ 7) {σ0 : H} (ht0 : Tidy σ0) (lw : Lw v0 v1 q0 q1 σ0) {wb : Nat} :
  ∀ (m n' i : Nat) (u : V) (σ : H) (L : List Nat), i + m = 5 → m < n' → Rk σ0 σ wb u L → L.length + 16 * m < 6000000 →
   ∃ u' σ', L4_12 E D W N n' (.fn 17 [] [.ptr q0 0]) (.fn 18 [] [.ptr q1 0]) ok wb 0 (Int.ofNat i) nm nv rv tv (Int.ofNat 7) (Int.ofNat 0) .nils l (Int.ofNat 0) .nils σ =
    J4_11 E D W N ok wb 0 nm nv rv tv (Int.ofNat 7) (Int.ofNat 0) .nils l (Int.ofNat 0) .nils σ' ∧ Wst σ wb u σ' u' (L ++ refA is w m i) := by
 intro m
 induction m with
 | zero =>
  intro n' i u σ L hi hn' k hl
  obtain ⟨n', rfl⟩ : ∃ k, n' = k + 1 := ⟨n' - 1, by omega⟩
  refine ⟨u, σ, ?_, by rw [refA, List.append_nil]; exact Wst.refl k.wr k.f.tidy⟩
  have k0 : ∀ K11 K13, T4_12 E D W K11 K13 (.fn 17 [] [.ptr q0 0]) (.fn 18 [] [.ptr q1 0]) ok wb 0 (Int.ofNat i) nm nv rv tv (Int.ofNat 7) (Int.ofNat 0) .nils l (Int.ofNat 0) .nils σ = K11 ok wb 0 nm nv rv tv (Int.ofNat 7) (Int.ofNat 0) .nils l (Int.ofNat 0) .nils σ := by
   intro K11 K13
   unfold T4_12
   rw [ltF_nat, decide_eq_false (by omega), condK_false]
  exact k0 _ _
 | succ m ih =>
  intro n' i u σ L hi hn' k hl
  obtain ⟨n', rfl⟩ : ∃ k, n' = k + 1 := ⟨n' - 1, by omega⟩
  have d1 : decide (i < 5) = true := decide_eq_true (by omega)
  have lw1 := lw.fr k.f ht0
  have ci : ∀ κ : V → H → Ans, callvK D (.fn 17 [] [.ptr q0 0]) [.int .i64 (Int.ofNat i)] σ κ = κ (.bool (is i)) σ := fun κ => cIs hI lw1 i κ
  have ca : ∀ κ : V → H → Ans, callvK D (.fn 18 [] [.ptr q1 0]) [.int .i64 (Int.ofNat i)] σ κ = κ (.int .u64 (Int.ofNat (w i))) σ := fun κ => cAt hA lw1 i κ
  obtain ⟨u2, σ2, g2, s2⟩ : ∃ u2 σ2, (∀ K11 K13, T4_12 E D W K11 K13 (.fn 17 [] [.ptr q0 0]) (.fn 18 [] [.ptr q1 0]) ok wb 0 (Int.ofNat i) nm nv rv tv (Int.ofNat 7) (Int.ofNat 0) .nils l (Int.ofNat 0) .nils σ = K13 (.fn 17 [] [.ptr q0 0]) (.fn 18 [] [.ptr q1 0]) ok wb 0 (Int.ofNat i) nm nv rv tv (Int.ofNat 7) (Int.ofNat 0) .nils l (Int.ofNat 0) .nils σ2) ∧
    Wst σ wb u σ2 u2 (L ++ (if is i = true then detBits 1 ++ bitsO [w i * 32] else [])) := by
   cases h1 : is i with
   | true =>
    rw [if_pos rfl]
    rw [h1] at ci
    have hwi := hw i
    obtain ⟨σ1, e1, f1, a1, n1⟩ := mk_new k.f.tidy [.int .u8 (Int.ofNat (w i * 32))]
    have hx : By σ1 (V.sl σ.next 0 1 (.ex 1)) (nI [w i * 32]) := .inr ⟨_, _, _, _, rfl, a1, Nat.le_refl _, rfl⟩
    obtain ⟨u2, σ2, g2, s2⟩ := hP σ1 wb u (V.sl σ.next 0 1 (.ex 1)) L [w i * 32] (k.wr.fr f1 k.f.tidy) f1.tidy (by simp only [List.length_cons, List.length_nil]; omega) (by simp) (fun c hc => by rw [List.mem_singleton.1 hc]; omega) (Sq.of hx) (Nat.le_refl _) (fun b hb => by
     have hb : b = σ.next := hb
     subst hb
     exact Off.new k.wr k.f.tidy (Nat.le_refl _) (a1.lt f1.tidy))
    refine ⟨u2, σ2, fun K11 K13 => ?_, Wst.behind f1 s2⟩
    have esh : wrapF .u8 (shlF .u64 (Int.ofNat (w i)) 5) = Int.ofNat (w i * 32) := by
     have : ∀ v : Fin 8, wrapF .u8 (shlF .u64 (Int.ofNat v.val) 5) = Int.ofNat (v.val * 32) := by decide
     exact this ⟨w i, by omega⟩
    unfold T4_12
    simp -implicitDefEqProofs only [↓rP, rS, ltF_nat, d1, ↓ci, ↓ca, esh, ↓e1, ↓g2]
   | false =>
    rw [if_neg (by decide), List.append_nil]
    rw [h1] at ci
    refine ⟨u, σ, fun K11 K13 => ?_, Wst.refl k.wr k.f.tidy⟩
    unfold T4_12
    simp -implicitDefEqProofs only [↓rP, rS, ltF_nat, d1, ↓ci]
  have hlen : (L ++ (if is i = true then detBits 1 ++ bitsO [w i * 32] else [])).length ≤ L.length + 16 := by
   rw [List.length_append]; split
   ·have h : (detBits 1 ++ bitsO [w i * 32]).length = 16 := by rw [List.length_append, bitsO_length]; rfl
    rw [h]; omega
   ·rw [List.length_nil]; omega
  obtain ⟨u3, σ3, g3, s3⟩ := ih n' (i + 1) u2 σ2 _ (by omega) (by omega) (k.step s2) (by omega)
  refine ⟨u3, σ3, (g2 _ _).trans (Eq.trans ?_ g3), ?_⟩
  ·show T4_13 E D W (L4_12 E D W N n') _ _ ok wb 0 (Int.ofNat i) nm nv rv tv (Int.ofNat 7) (Int.ofNat 0) .nils l (Int.ofNat 0) .nils σ2 = _
   unfold T4_13
   rw [addF_nat (by omega)]
  ·have := s2.trans s3
   rw [List.append_assoc] at this
   rw [refA]; exact this
theorem hbytes_F {σ : H} {x y : V} {l : List Int} (hx : By σ x l) (hy : By σ y l) : F22 E D W N [x, y] σ = some (.bool true, σ) := by
 show T22_0 E D W x y σ = _
 unfold T22_0
 rw [hx.str, hy.str, BS.beq_nats, decide_eq_true rfl]
theorem tailU {hl : l.one = true} {σ0 σ : H} {wb : Nat} {u : V} {Z : List Nat} (k : Rk σ0 σ wb u Z) (hb : Bin Z) (hZ : 0 < Z.length) (hZ' : Z.length ≤ 90000)
  (hE : ∀ σ1, Tidy σ1 → Fr Nowhere σ0 σ1 → ∃ b σ', D 15 [.agg [.str nm, nv, rv, tv], .int .i64 (Int.ofNat 0), .agg (Vc.sq l hl (Int.ofNat 0) .nils rfl).c] σ1 = some (.tup [b, .int .i64 (Int.ofNat 0)], σ') ∧ Nb σ1 σ' b (nI (pack Z)) ∧ Fr Nowhere σ1 σ')
  (hAw : ∀ σ1, Tidy σ1 → ∃ σ', D 11 [] σ1 = some (.bool true, σ') ∧ Fr Nowhere σ1 σ')
  (hBy : ∀ (σ1 : H) (u : V), Wr σ1 wb u Z → Tidy σ1 → ∃ v σ', D 23 [.ptr wb 0] σ1 = some (v, σ') ∧ Nb σ1 σ' v (nI (pack Z)) ∧ Fr Nowhere σ1 σ')
  (hS : ∀ (σ1 : H) (x y : V), By σ1 x (nI (pack Z)) → By σ1 y (nI (pack Z)) → D 22 [x, y] σ1 = some (.bool true, σ1)) :
  ∃ σ', J4_11 E D W N true wb 0 nm nv rv tv (Int.ofNat 7) (Int.ofNat 0) .nils l (Int.ofNat 0) .nils σ = some (.bool true, σ') := by
 obtain ⟨b, σ1, g1, n1, f1⟩ := hE σ k.f.tidy k.f
 obtain ⟨σ2, g2, f2⟩ := hAw σ1 f1.tidy
 have f12 := f1.trans f2 (fun _ _ h => h)
 obtain ⟨v, σ3, g3, n3, f3⟩ := hBy σ2 u (k.wr.fr f12 k.f.tidy) f12.tidy
 have nb3 := (n1.fr f2 f1.tidy).fr f3 f2.tidy
 have g4 := hS σ3 b v nb3.by_ n3.by_
 refine ⟨σ3, ?_⟩
 unfold Vc.sq Vc.c at g1
 show T4_11 E D W true wb 0 nm nv rv tv (Int.ofNat 7) (Int.ofNat 0) .nils l (Int.ofNat 0) .nils σ = _
 unfold T4_11
 simp -implicitDefEqProofs only [↓rP, rS, rQ, decide_false, decide_true, Nat.reduceEqDiff, Nat.reduceLT, Nat.reduceLeDiff, ↓g1, ↓g2, ↓g3, ↓rtOne_of n3.1.one, ↓g4]
end
end
noncomputable section
def refL (more later : Bool) (is : Nat → Bool) (w : Nat → Nat) : List Nat :=
 (if more = true then [bitB later] else []) ++ ([bitB (is 0)] ++ ([bitB (is 2)] ++ (refB is w 3 0 ++ if later = true then bitsOf 7 1 ++ ([bitB (is 3)] ++ ([bitB (is 4)] ++ refA is w 2 3)) else [])))
theorem openB3 {v : Nat} (h : v ≤ 7) : openB (bitsOf 3 v) = detBits 1 ++ bitsO [v * 32] := by
 have : ∀ v : Fin 8, openB (bitsOf 3 v.val) = detBits 1 ++ bitsO [v.val * 32] := by decide
 exact this ⟨v, by omega⟩
section
variable {is : Nat → Bool} {w : Nat → Nat} {tg : Nat → Nat} {fb : Nat}
theorem ab0 : abP is 0 = !is 0 := by unfold abP thP; simp
theorem ab1 : abP is 1 = false := by unfold abP thP; simp
theorem ab2 : abP is 2 = !is 2 := by unfold abP thP; simp
theorem ab3 : abP is 3 = !is 3 := by unfold abP thP; simp
theorem ab4 : abP is 4 = !is 4 := by unfold abP thP; simp
theorem th0 : thP is 0 = is 0 := by unfold thP; simp
theorem th1 : thP is 1 = true := by unfold thP; simp
theorem th2 : thP is 2 = is 2 := by unfold thP; simp
theorem pre_eq : preF (fun k => (fdP k).op) (abP is) [0, 1, 2] = [bitB (is 0)] ++ [bitB (is 2)] := by
 have o0 : (fdP 0).op = true := rfl
 have o1 : (fdP 1).op = false := rfl
 have o2 : (fdP 2).op = true := rfl
 simp only [preF, o0, o1, o2, ab0, ab2]
 cases is 0 <;> cases is 2 <;> rfl
theorem body_eq : bodyF (abP is) (XP w) [0, 1, 2] = refB is w 3 0 := by
 simp only [bodyF, refB, Nat.zero_add, Nat.reduceAdd, ab0, ab1, ab2, th0, th1, th2, XP]
 cases is 0 <;> cases is 2 <;> rfl
theorem ref3 : fieldB (tyP 3 false tg fb 0) fdP (abP is) (XP w) [0, 1, 2] (laterP is []) (addsY (abP is) (XP w) []) = refL false false is w := by
 unfold fieldB refL
 rw [pre_eq, body_eq]
 rfl
theorem later5 : laterP is [3, 4] = (is 3 || is 4) := by
 unfold laterP
 simp only [List.map_cons, List.map_nil, ab3, ab4]
 cases is 3 <;> cases is 4 <;> rfl
theorem adds_eq (hw : ∀ k, w k ≤ 7) : addsY (abP is) (XP w) [3, 4] = bitsOf 7 1 ++ ([bitB (is 3)] ++ ([bitB (is 4)] ++ refA is w 2 3)) := by
 unfold addsY
 simp only [List.map_cons, List.map_nil, addsF, refA, Nat.reduceAdd, ab3, ab4, XP, openB3 (hw _)]
 cases is 3 <;> cases is 4 <;> rfl
theorem ref5 (hw : ∀ k, w k ≤ 7) : fieldB (tyP 5 true tg fb 0) fdP (abP is) (XP w) [0, 1, 2] (laterP is [3, 4]) (addsY (abP is) (XP w) [3, 4]) = refL true (is 3 || is 4) is w := by
 unfold fieldB refL
 rw [pre_eq, body_eq, later5, adds_eq hw, List.append_assoc, List.append_assoc]
 rfl
theorem refL_len (more later : Bool) : (refL more later is w).length ≤ 100 ∧ 0 < (refL more later is w).length := by
 have h1 := refB_len is w 3 0
 have h2 := refA_len is w 2 3
 unfold refL
 simp only [List.length_append, List.length_cons, List.length_nil]
 constructor
 ·split <;> split <;> simp only [List.length_append, List.length_cons, List.length_nil, bitsOf_length] <;> omega
 ·omega
theorem bitB_lt (c : Bool) : bitB c < 2 := by cases c <;> decide
theorem refL_bin (more later : Bool) : Bin (refL more later is w) := by
 have one : ∀ c, Bin [bitB c] := fun c b hb => by rw [List.mem_singleton.1 hb]; exact bitB_lt c
 have app : ∀ {l m : List Nat}, Bin l → Bin m → Bin (l ++ m) := fun h1 h2 b hb => (List.mem_append.1 hb).elim (h1 b) (h2 b)
 have nil : Bin [] := fun b hb => by cases hb
 unfold refL
 refine app (by split; exact one _; exact nil) (app (one _) (app (one _) (app (refB_bin is w 3 0) ?_)))
 split
 ·exact app (bitsOf_bin 7 1) (app (one _) (app (one _) (refA_bin is w 2 3)))
 ·exact nil
end
section
variable {E : List (Nat × Blk)} {v0 v1 : V} {q0 q1 : Nat} {is : Nat → Bool} {w : Nat → Nat} {W : DrawFn} {n : Nat} {more : Bool} {tg : Nat → Nat} {tb fb : Nat} {nv rv : V} {P : H → Prop} {S : List Nat}
theorem rest_F (hI : SpIs (TW E 60) is v0 v1 q0 q1) (hA : SpAt (TW E 60) w v0 v1 q0 q1) (hT : SpBt (TW E 60)) (t : TabP E P n more S tg tb fb nv rv) (hn : 3 ≤ n ∧ n ≤ 5) (hS : ∀ k ∈ S, 3 ≤ k ∧ k < n) (hSl : S.length ≤ 64) (hw : ∀ k, w k ≤ 7)
  (hZ : fieldB (tyP n more tg fb 0) fdP (abP is) (XP w) [0, 1, 2] (laterP is S) (addsY (abP is) (XP w) S) = refL more (more && (is 3 || is 4)) is w) {σ : H} (ht : Tidy σ) (hP : P σ) (lw : Lw v0 v1 q0 q1 σ) :
  ∃ σ', J4_2 E (TW E 60) W 100000 more (.fn 17 [] [.ptr q0 0]) (.fn 18 [] [.ptr q1 0]) true (Int.ofNat n) ⟨1, 77⟩ nv rv (.sl tb 0 (n + 1) (.op 13)) σ = some (.bool true, σ') := by
 obtain ⟨zl, z0⟩ := refL_len (is := is) (w := w) more (more && (is 3 || is 4))
 obtain ⟨l, σ1, g1, f1, hl1⟩ := loopV (E := E) (W := W) (N := 100000) (more := more) (ok := true) (nm := ⟨1, 77⟩) (nv := nv) (rv := rv) (tv := .sl tb 0 (n + 1) (.op 13)) hI hA hw ht lw hn.2 n 100000 0 .nils σ (by omega) (by omega) (Fr.refl ht) (Nw.nil σ σ 6)
 have lw1 := lw.fr f1 ht
 have hP1 := t.fr _ _ ht f1 hP
 have hrow : Row σ1 6 n l fun k => (gP is w k).c := by
  rcases hl1.1 with (⟨h, _⟩ | ⟨b, rfl, ha, _, _⟩) | ⟨b, rfl, ha, _⟩
  ·omega
  ·exact Row.flat (fun k => by unfold gP; split <;> rfl) ha
  ·exact Row.flat (fun k => by unfold gP; split <;> rfl) ha
 have hlo : l.one = true := hl1.1.one
 have hlb : V.beq l l = true := by
  rcases hl1.1 with (⟨_, h, _⟩ | ⟨b, h, _⟩) | ⟨b, h, _⟩ <;> rw [h] <;> exact beq_self _ rfl
 obtain ⟨σ2, e2, f2, a2, n2⟩ := mk_new f1.tidy [.nils]
 have w2 : Wr σ2 σ1.next .nils [] := ⟨a2, Dst.nil σ2 1, fun h => h.elim⟩
 have k2 : Rk σ1 σ2 σ1.next .nils [] := ⟨w2, f2, fun b hb => by
  rcases hb with hb | hb
  ·exact Nat.le_of_eq hb.symm
  ·exact hb.elim⟩
 have lw2 := lw1.fr f2 f1.tidy
 have xB : SpBits (TW E 60 20) := xBits 58
 have ci : ∀ (σ : H) (i : Nat) (κ : V → H → Ans), Lw v0 v1 q0 q1 σ → callvK (TW E 60) (.fn 17 [] [.ptr q0 0]) [.int .i64 (Int.ofNat i)] σ κ = κ (.bool (is i)) σ := fun σ i κ h => cIs hI h i κ
 have ct : ∀ (σ : H) (c : Bool) (κ : V → H → Ans), callvK (TW E 60) (.fn 19 [] []) [.bool c] σ κ = κ (.int .u64 (Int.ofNat (bitB c))) σ := fun σ c κ => cBt hT c κ
 have hbit : ∀ (σ : H) (u : V) (L : List Nat) (c : Bool), Rk σ1 σ σ1.next u L → L.length < 1000 → ∃ u' σ', TW E 60 20 [.ptr σ1.next 0, .int .u64 (Int.ofNat (bitB c)), .int .i64 (Int.ofNat 1)] σ = some (.tup [], σ') ∧ Wst σ σ1.next u σ' u' (L ++ [bitB c]) := fun σ u L c k hl => by
  obtain ⟨u', σ', g, s⟩ := xB σ σ1.next u L (bitB c) 1 k.wr k.f.tidy (by omega) (by have := bitB_lt c; omega) (by decide)
  rw [bits1] at s
  exact ⟨u', σ', g, s⟩
 obtain ⟨u3, σ3, g3, s3⟩ : ∃ u3 σ3, (∀ K7, T4_3 E (TW E 60) W K7 more (.fn 17 [] [.ptr q0 0]) (.fn 18 [] [.ptr q1 0]) true ⟨1, 77⟩ nv rv (.sl tb 0 (n + 1) (.op 13)) (Int.ofNat 7) (Int.ofNat 0) .nils l (Int.ofNat 0) .nils σ1 = K7 (.fn 17 [] [.ptr q0 0]) (.fn 18 [] [.ptr q1 0]) true (.fn 19 [] []) σ1.next 0 (more && (is 3 || is 4)) ⟨1, 77⟩ nv rv (.sl tb 0 (n + 1) (.op 13)) (Int.ofNat 7) (Int.ofNat 0) .nils l (Int.ofNat 0) .nils σ3) ∧
   Wst σ2 σ1.next .nils σ3 u3 ([] ++ (if more = true then [bitB (more && (is 3 || is 4))] else [])) := by
  have c3 : ∀ κ : V → H → Ans, callvK (TW E 60) (.fn 17 [] [.ptr q0 0]) [.int .i64 (Int.ofNat 3)] σ2 κ = κ (.bool (is 3)) σ2 := fun κ => ci σ2 3 κ lw2
  have c4 : ∀ κ : V → H → Ans, callvK (TW E 60) (.fn 17 [] [.ptr q0 0]) [.int .i64 (Int.ofNat 4)] σ2 κ = κ (.bool (is 4)) σ2 := fun κ => ci σ2 4 κ lw2
  cases more with
  | false =>
   refine ⟨.nils, σ2, fun K7 => ?_, by rw [if_neg (by decide), List.append_nil]; exact Wst.refl w2 f2.tidy⟩
   unfold T4_3
   simp -implicitDefEqProofs only [↓rP, rS, ↓e2, Bool.false_and]
  | true =>
   obtain ⟨u3, σ3, g3, s3⟩ := hbit σ2 .nils [] (true && (is 3 || is 4)) k2 (by decide)
   refine ⟨u3, σ3, fun K7 => ?_, by rw [if_pos rfl]; exact s3⟩
   have cb : ∀ κ : V → H → Ans, callvK (TW E 60) (.fn 19 [] []) [.bool (is 3 || is 4)] σ2 κ = κ (.int .u64 (Int.ofNat (bitB (is 3 || is 4)))) σ2 := fun κ => ct σ2 _ κ
   rw [Bool.true_and] at g3
   unfold T4_3
   cases h3 : is 3 with
   | true =>
    rw [h3] at c3 cb g3
    simp only [Bool.true_or] at cb g3
    simp -implicitDefEqProofs only [↓rP, rS, ↓e2, ↓c3, ↓cb, ↓g3, Bool.true_or, Bool.true_and]
   | false =>
    rw [h3] at c3 cb g3
    simp only [Bool.false_or] at cb g3
    simp -implicitDefEqProofs only [↓rP, rS, ↓e2, ↓c3, ↓c4, ↓cb, ↓g3, Bool.false_or, Bool.true_and]
 generalize hla : (more && (is 3 || is 4)) = later at *
 have k3 := k2.step s3
 have L3 : ([] ++ (if more = true then [bitB later] else [])).length ≤ 1 := by rw [List.nil_append]; split <;> simp
 have lw3 := lw1.fr k3.f f1.tidy
 obtain ⟨u4, σ4, g4, s4⟩ := hbit σ3 u3 _ (is 0) k3 (by omega)
 have k4 := k3.step s4
 have lw4 := lw1.fr k4.f f1.tidy
 obtain ⟨u5, σ5, g5, s5⟩ := hbit σ4 u4 _ (is 2) k4 (by rw [List.length_append, List.length_singleton]; omega)
 have k5 := k4.step s5
 have L5 : ((([] ++ (if more = true then [bitB later] else [])) ++ [bitB (is 0)]) ++ [bitB (is 2)]).length ≤ 3 := by rw [List.length_append, List.length_append, List.length_singleton, List.length_singleton]; omega
 have k7 : ∀ K9, T4_7 E (TW E 60) W K9 (.fn 17 [] [.ptr q0 0]) (.fn 18 [] [.ptr q1 0]) true (.fn 19 [] []) σ1.next 0 later ⟨1, 77⟩ nv rv (.sl tb 0 (n + 1) (.op 13)) (Int.ofNat 7) (Int.ofNat 0) .nils l (Int.ofNat 0) .nils σ3 = K9 (.fn 17 [] [.ptr q0 0]) (.fn 18 [] [.ptr q1 0]) true (.fn 19 [] []) σ1.next 0 later (Int.ofNat 0) ⟨1, 77⟩ nv rv (.sl tb 0 (n + 1) (.op 13)) (Int.ofNat 7) (Int.ofNat 0) .nils l (Int.ofNat 0) .nils σ5 := by
  intro K9
  have c0 : ∀ κ : V → H → Ans, callvK (TW E 60) (.fn 17 [] [.ptr q0 0]) [.int .i64 (Int.ofNat 0)] σ3 κ = κ (.bool (is 0)) σ3 := fun κ => ci σ3 0 κ lw3
  have c2 : ∀ κ : V → H → Ans, callvK (TW E 60) (.fn 17 [] [.ptr q0 0]) [.int .i64 (Int.ofNat 2)] σ4 κ = κ (.bool (is 2)) σ4 := fun κ => ci σ4 2 κ lw4
  have b0 : ∀ κ : V → H → Ans, callvK (TW E 60) (.fn 19 [] []) [.bool (is 0)] σ3 κ = κ (.int .u64 (Int.ofNat (bitB (is 0)))) σ3 := fun κ => ct σ3 _ κ
  have b2 : ∀ κ : V → H → Ans, callvK (TW E 60) (.fn 19 [] []) [.bool (is 2)] σ4 κ = κ (.int .u64 (Int.ofNat (bitB (is 2)))) σ4 := fun κ => ct σ4 _ κ
  unfold T4_7
  simp -implicitDefEqProofs only [↓rP, rS, ↓c0, ↓b0, ↓g4, ↓c2, ↓b2, ↓g5]
 obtain ⟨u6, σ6, g6, s6⟩ := loopB (E := E) (W := W) (N := 100000) (ok := true) (later := later) (nm := ⟨1, 77⟩) (nv := nv) (rv := rv) (tv := .sl tb 0 (n + 1) (.op 13)) (l := l) hI hA xB hw f1.tidy lw1 3 100000 0 u5 σ5 _ (by omega) (by omega) k5 (by omega)
 have k6 := k5.step s6
 have hB3 := refB_len is w 3 0
 obtain ⟨u7, σ7, g7, s7⟩ : ∃ u7 σ7, J4_8 E (TW E 60) W 100000 (.fn 17 [] [.ptr q0 0]) (.fn 18 [] [.ptr q1 0]) true (.fn 19 [] []) σ1.next 0 later ⟨1, 77⟩ nv rv (.sl tb 0 (n + 1) (.op 13)) (Int.ofNat 7) (Int.ofNat 0) .nils l (Int.ofNat 0) .nils σ6 = J4_11 E (TW E 60) W 100000 true σ1.next 0 ⟨1, 77⟩ nv rv (.sl tb 0 (n + 1) (.op 13)) (Int.ofNat 7) (Int.ofNat 0) .nils l (Int.ofNat 0) .nils σ7 ∧
   Wst σ6 σ1.next u6 σ7 u7 ((((([] ++ (if more = true then [bitB later] else [])) ++ [bitB (is 0)]) ++ [bitB (is 2)]) ++ refB is w 3 0) ++ (if later = true then bitsOf 7 1 ++ ([bitB (is 3)] ++ ([bitB (is 4)] ++ refA is w 2 3)) else [])) := by
  have L6 : (((([] ++ (if more = true then [bitB later] else [])) ++ [bitB (is 0)]) ++ [bitB (is 2)]) ++ refB is w 3 0).length ≤ 12 := by rw [List.length_append]; omega
  generalize hL6 : (((([] ++ (if more = true then [bitB later] else [])) ++ [bitB (is 0)]) ++ [bitB (is 2)]) ++ refB is w 3 0) = Lx at *
  show ∃ u7 σ7, T4_8 E (TW E 60) W (J4_11 E (TW E 60) W 100000) (L4_12 E (TW E 60) W 100000 100000) _ _ true _ σ1.next 0 later _ _ _ _ _ _ _ _ _ _ σ6 = _ ∧ _
  cases later with
  | false =>
   refine ⟨u6, σ6, ?_, by rw [if_neg (by decide), List.append_nil]; exact Wst.refl k6.wr k6.f.tidy⟩
   unfold T4_8
   simp -implicitDefEqProofs only [↓rP, rS]
  | true =>
   obtain ⟨ua, σa, ga, sa⟩ := xB σ6 σ1.next u6 Lx 1 7 k6.wr k6.f.tidy (by omega) (by decide) (by decide)
   have ka := k6.step sa
   have lwa := lw1.fr ka.f f1.tidy
   have La : (Lx ++ bitsOf 7 1).length ≤ 19 := by rw [List.length_append, bitsOf_length]; omega
   obtain ⟨ub, σb, gb, sb⟩ := hbit σa ua _ (is 3) ka (by omega)
   have kb := ka.step sb
   have lwb := lw1.fr kb.f f1.tidy
   obtain ⟨uc, σc, gc, sc⟩ := hbit σb ub _ (is 4) kb (by rw [List.length_append, List.length_singleton]; omega)
   have kc := kb.step sc
   obtain ⟨ud, σd, gd, sd⟩ := loopA (E := E) (W := W) (N := 100000) (ok := true) (nm := ⟨1, 77⟩) (nv := nv) (rv := rv) (tv := .sl tb 0 (n + 1) (.op 13)) (l := l) hI hA (xPut 56) hw f1.tidy lw1 2 100000 3 uc σc _ (by omega) (by omega) kc (by rw [List.length_append, List.length_append, List.length_singleton, List.length_singleton]; omega)
   refine ⟨ud, σd, ?_, ?_⟩
   ·have c3 : ∀ κ : V → H → Ans, callvK (TW E 60) (.fn 17 [] [.ptr q0 0]) [.int .i64 (Int.ofNat 3)] σa κ = κ (.bool (is 3)) σa := fun κ => ci σa 3 κ lwa
    have c4 : ∀ κ : V → H → Ans, callvK (TW E 60) (.fn 17 [] [.ptr q0 0]) [.int .i64 (Int.ofNat 4)] σb κ = κ (.bool (is 4)) σb := fun κ => ci σb 4 κ lwb
    have b3 : ∀ κ : V → H → Ans, callvK (TW E 60) (.fn 19 [] []) [.bool (is 3)] σa κ = κ (.int .u64 (Int.ofNat (bitB (is 3)))) σa := fun κ => ct σa _ κ
    have b4 : ∀ κ : V → H → Ans, callvK (TW E 60) (.fn 19 [] []) [.bool (is 4)] σb κ = κ (.int .u64 (Int.ofNat (bitB (is 4)))) σb := fun κ => ct σb _ κ
    have kk : ∀ K11 K12, T4_8 E (TW E 60) W K11 K12 (.fn 17 [] [.ptr q0 0]) (.fn 18 [] [.ptr q1 0]) true (.fn 19 [] []) σ1.next 0 true ⟨1, 77⟩ nv rv (.sl tb 0 (n + 1) (.op 13)) (Int.ofNat 7) (Int.ofNat 0) .nils l (Int.ofNat 0) .nils σ6 = K12 (.fn 17 [] [.ptr q0 0]) (.fn 18 [] [.ptr q1 0]) true σ1.next 0 (Int.ofNat 3) ⟨1, 77⟩ nv rv (.sl tb 0 (n + 1) (.op 13)) (Int.ofNat 7) (Int.ofNat 0) .nils l (Int.ofNat 0) .nils σc := by
     intro K11 K12
     unfold T4_8
     simp -implicitDefEqProofs only [↓rP, rS, ↓ga, ↓c3, ↓b3, ↓gb, ↓c4, ↓b4, ↓gc]
    exact (kk _ _).trans gd
   ·have := ((sa.trans sb).trans sc).trans sd
    rw [if_pos rfl]
    simp only [List.append_assoc] at this ⊢
    exact this
 have k8 := k6.step s7
 have eZ : (((([] ++ (if more = true then [bitB later] else [])) ++ [bitB (is 0)]) ++ [bitB (is 2)]) ++ refB is w 3 0) ++ (if later = true then bitsOf 7 1 ++ ([bitB (is 3)] ++ ([bitB (is 4)] ++ refA is w 2 3)) else []) = refL more later is w := by
  unfold refL
  simp only [List.nil_append, List.append_assoc]
 rw [eZ] at k8
 obtain ⟨σ9, g9⟩ := tailU (E := E) (W := W) (N := 100000) (D := TW E 60) (hl := hlo) (nm := ⟨1, 77⟩) (nv := nv) (rv := rv) (tv := .sl tb 0 (n + 1) (.op 13)) k8 (refL_bin _ _) z0 (by omega) (fun σ' h' f' => by
   have hP' := t.fr _ _ f1.tidy f' hP1
   obtain ⟨b, σ'', g, nb, f⟩ := encP (is := is) (w := w) 47 t hn hS hSl hw hlo hlb h' hP' (hrow.fr0 f' f1.tidy) (by rw [hZ]; exact z0) (by rw [hZ]; omega)
   rw [hZ] at nb
   exact ⟨b, σ'', g, nb, f⟩) (fun σ' h' => xAw 59 h') (fun σ' u h h' => by
   rw [show (60 : Nat) = 59 + 1 by rfl, DE23]
   exact r17bytes_F (xBytes 58) h h' (refL_bin _ _) (by omega) z0) (fun σ' x y hx hy => by
   rw [show (60 : Nat) = 59 + 1 by rfl, DE22]
   exact hbytes_F hx hy)
 refine ⟨σ9, ?_⟩
 show T4_2 E (TW E 60) W (L4_4 E (TW E 60) W 100000 100000) more _ _ true (Int.ofNat n) _ _ _ _ σ = _
 unfold T4_2
 refine g1.trans ?_
 refine (g3 _).trans ?_
 refine (k7 _).trans ?_
 refine g6.trans ?_
 exact g7.trans g9
theorem catK_of {a b : BS} (h : a.len + b.len ≤ 1000000) (κ : BS → Ans) : catK a b κ = κ (a.cat b) := by
 unfold catK
 rw [show Nat.ble (Nat.add a.len b.len) 1000000000000 = true from ble_of (show a.len + b.len ≤ 1000000000000 by omega)]
theorem law_F {nb nvs : Nat} {there : Nat → Bool} {vals : Nat → Int} (h0 : Arg E v0 nb 50 fun i => .bool (there i)) (hth : ∀ i, nb ≤ i → there i = false) (h1 : Arg E v1 nvs 51 fun i => .int .i64 (vals i)) (more : Bool) :
  okB (F4 E (TW E 60) W 100000 [v0, v1, .bool more] ⟨100, []⟩) = true := by
 have ht0 : Tidy (⟨100, []⟩ : H) := fun b _ => rfl
 obtain ⟨σ1, e1, f1, a1, n1⟩ := mk_new ht0 [v0]
 obtain ⟨σ2, e2, f2, a2, n2⟩ := mk_new f1.tidy [v1]
 have f02 := f1.trans f2 (fun _ _ h => h)
 have c0 : v0.cells = [v0] := (one_live h0.one).2
 have c1 : v1.cells = [v1] := (one_live h1.one).2
 have lw : Lw v0 v1 (⟨100, []⟩ : H).next σ1.next σ2 := ⟨f2.at_ a1 f1.tidy (fun h => h), a2, by rw [f02.same 50 (by decide) (fun h => h)]; rfl, by rw [f02.same 51 (by decide) (fun h => h)]; rfl, f02.le⟩
 have hI : SpIs (TW E 60) there v0 v1 (⟨100, []⟩ : H).next σ1.next := fun σ i h => by
  rw [show (60 : Nat) = 59 + 1 by rfl, DE17]; exact is_F h0 hth h i
 have hA : SpAt (TW E 60) (val8 vals nvs) v0 v1 (⟨100, []⟩ : H).next σ1.next := fun σ i h => by
  rw [show (60 : Nat) = 59 + 1 by rfl, DE18]; exact at_F h1 h i
 have hT : SpBt (TW E 60) := fun σ c => by
  rw [show (60 : Nat) = 59 + 1 by rfl, DE19]; exact bit_F c
 have hw := val8_le vals nvs
 cases more with
 | false =>
  obtain ⟨τ, σ3, g3, p3, f3⟩ := xTab3 (E := E) 59 (σ := σ2) f02.tidy
  obtain ⟨σ4, g4⟩ := rest_F (W := W) (is := there) (w := val8 vals nvs) hI hA hT (tab3 (E := E) (τ := τ)) (by decide) (fun k hk => by cases hk) (by decide) hw ref3 f3.tidy p3 (lw.fr f3 f02.tidy)
  have key : F4 E (TW E 60) W 100000 [v0, v1, .bool false] ⟨100, []⟩ = some (.bool true, σ4) := by
   show T4_0 E (TW E 60) W (T4_1 E (TW E 60) W (J4_2 E (TW E 60) W 100000)) v0 v1 false ⟨100, []⟩ = _
   refine Eq.trans ?_ g4
   generalize J4_2 E (TW E 60) W 100000 = K2
   have g3' : TW E 60 13 [.str (((BS.mk 137 252874003271543593947331098184874304601441845805522950423900096805812980788622400580716538016508425385117289776954132107877497881580710899564611824999152598343847976541856440415309573549064581569044350051659730593656960867256326446476488347815710796982061864432318149894258958459613276272441341244416894149606877866918103088373837).cat (BS.mk 0 0)).cat (BS.mk 6 75102957894944))] σ2 = _ := g3
   have k0 : ∀ K1, T4_0 E (TW E 60) W K1 v0 v1 false ⟨100, []⟩ = K1 false (.fn 17 [] [.ptr (⟨100, []⟩ : H).next 0]) (.fn 18 [] [.ptr σ1.next 0]) (BS.mk 0 0) σ2 := by
    intro K1
    unfold T4_0
    simp -implicitDefEqProofs only [↓rP, rS, c0, c1, h0.one, h1.one, ↓e1, ↓e2]
   rw [k0]
   unfold T4_1
   rw [catK_of (by decide), catK_of (by decide)]
   simp -implicitDefEqProofs only [↓rP, rS, ↓g3']
  rw [key]; rfl
 | true =>
  obtain ⟨τ, σ3, g3, p3, f3⟩ := xTab5 (E := E) 59 (σ := σ2) f02.tidy
  obtain ⟨σ4, g4⟩ := rest_F (W := W) (is := there) (w := val8 vals nvs) hI hA hT (tab5 (E := E) (τ := τ)) (by decide) (fun k hk => by simp only [List.mem_cons, List.not_mem_nil, or_false] at hk; omega) (by decide) hw (by rw [ref5 hw]; rfl) f3.tidy p3 (lw.fr f3 f02.tidy)
  have key : F4 E (TW E 60) W 100000 [v0, v1, .bool true] ⟨100, []⟩ = some (.bool true, σ4) := by
   show T4_0 E (TW E 60) W (T4_1 E (TW E 60) W (J4_2 E (TW E 60) W 100000)) v0 v1 true ⟨100, []⟩ = _
   refine Eq.trans ?_ g4
   generalize J4_2 E (TW E 60) W 100000 = K2
   have g3' : TW E 60 13 [.str (((BS.mk 137 252874003271543593947331098184874304601441845805522950423900096805812980788622400580716538016508425385117289776954132107877497881580710899564611824999152598343847976541856440415309573549064581569044350051659730593656960867256326446476488347815710796982061864432318149894258958459613276272441341244416894149606877866918103088373837).cat (BS.mk 49 1623975293733133521734313334905345086042623102148263682128617684140664239931079092711463160544898431175879982626775084)).cat (BS.mk 6 75102957894944))] σ2 = _ := g3
   have k0 : ∀ K1, T4_0 E (TW E 60) W K1 v0 v1 true ⟨100, []⟩ = K1 true (.fn 17 [] [.ptr (⟨100, []⟩ : H).next 0]) (.fn 18 [] [.ptr σ1.next 0]) (BS.mk 49 1623975293733133521734313334905345086042623102148263682128617684140664239931079092711463160544898431175879982626775084) σ2 := by
    intro K1
    unfold T4_0
    simp -implicitDefEqProofs only [↓rP, rS, c0, c1, h0.one, h1.one, ↓e1, ↓e2]
   rw [k0]
   unfold T4_1
   rw [catK_of (by decide), catK_of (by decide)]
   simp -implicitDefEqProofs only [↓rP, rS, ↓g3']
  rw [key]; rfl
end
end
end Go.Proofs.YtgjjnbddbbhloaaGreatDoor
namespace Go.Proofs.YtgjjnbddbbhloaaGreatDoor.uperPreamble
open Go
theorem k_inPlace : (Rows.uperPreambleRow.inPlace == Tryz.pinned.checked.prog.inPlace 4) = true := by kernel_rfl
theorem k_unfollowed : (Rows.uperPreambleRow.unfollowed == Tryz.pinned.checked.prog.unfollowed 4) = true := by kernel_rfl
theorem k_recurses : (Rows.uperPreambleRow.recurses == Tryz.pinned.checked.prog.recurses 4) = true := by kernel_rfl
theorem k_varsNamed : (Rows.uperPreambleRow.named == Tryz.pinned.checked.prog.varsNamed 4) = true := by kernel_rfl
end Go.Proofs.YtgjjnbddbbhloaaGreatDoor.uperPreamble
