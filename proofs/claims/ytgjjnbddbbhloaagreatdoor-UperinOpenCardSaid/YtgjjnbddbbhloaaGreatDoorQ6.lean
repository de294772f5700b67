/- What the last text leans on, part 7 of 7: merged out of smaller texts. No condition. -/
import Derived.Test.YtgjjnbddbbhloaaGreatDoorChecked
import Derived.Test.YtgjjnbddbbhloaaGreatDoorCards
import Derived.KernelRfl
import Derived.Test.YtgjjnbddbbhloaaGreatDoorQ5
set_option linter.all false
set_option maxRecDepth 100000
namespace Go.Proofs.YtgjjnbddbbhloaaGreatDoor
open Go Go.Og
noncomputable section
def SpOF (P : H → Prop) (m : BS) (x1 x2 : V) (tb : Nat) (F : List V → H → Ans) : Prop := ∀ σ, Tidy σ → P σ →
 ∃ fo σ', F [.agg [.str m, x1, x2, .sl tb 0 2 (.op 13)], .int .i64 (Int.ofNat 0)] σ = some (.sl fo 0 1 (.op 1), σ') ∧ Fr Nowhere σ σ'
def SpAdds (P : H → Prop) (m : BS) (x1 x2 : V) (tb : Nat) (F : List V → H → Ans) : Prop := ∀ (σ : H) (db wb rb cb t0 t1 fb i vv lb n0 : Nat) (v : V) (O : List Nat) (em : Bool) (n : Int) (vk vn vb0 vr vm : V),
  Tidy σ → Rw σ wb rb v O i (Int.ofNat 0) em → De σ db wb rb cb tb 2 m x1 x2 n → P σ →
  bit (bitsO O) i = 0 → readV (bitsO O) (i + 1) 6 0 = 0 → bit (bitsO O) (i + 7) = 1 →
  leF (addF .i64 n (Int.negSucc 0)) (Int.ofNat 5000) = true → leF (addF .i64 (addF .i64 n (Int.negSucc 0)) (Int.ofNat 1)) (Int.ofNat 5000) = true →
  Atc σ tb (tyc t0 t1 fb) → ¬ Names v cb → tb ≠ cb → tb ≠ rb → tb ≠ wb →
  i + 8 + 8 + 8 * n0 ≤ 8 * O.length → readV (bitsO O) (i + 8) 8 0 = n0 → 0 < n0 → n0 < 128 → (∀ c ∈ octR (bitsO O) (i + 8 + 8) n0, c < 256) → endN (octR (bitsO O) (i + 8 + 8) n0) 1 ≠ 0 →
  Atc σ fb fdc → Atc σ vv [vk, vn, vb0, .sl lb 0 1 (.ex 1), vr, vm] → Atc σ lb vz →
  (fb ≠ rb ∧ fb ≠ cb ∧ fb ≠ lb) → (vv ≠ rb ∧ vv ≠ cb ∧ vv ≠ lb) → lb ≠ rb → lb ≠ cb → lb ≠ wb → lb ≠ db → ¬ Names v lb →
  ∃ σ', F [.ptr db 0, .int .i64 (Int.ofNat 0), .ptr vv 0, .int .i64 (Int.ofNat 1)] σ = some (.tup [], σ') ∧ Rw σ' wb rb v O (i + 8 + 8 + 8 * n0) (Int.ofNat 4) em ∧ Fr (fun k => k = wb ∨ k = rb ∨ k = cb ∨ k = lb) σ σ'
section
variable {E : List (Nat × Blk)} {D : Den} {N : Nat}
theorem addsF (h2N : 3 < N) {P : H → Prop} (hPf : ∀ σ σ', Tidy σ → Fr Nowhere σ σ' → P σ → P σ') {m : BS} {x1 x2 : V} {tb : Nat}
  (hOS : SpOS P m x1 x2 tb (D 155)) (hS : SpSlots (D 270)) (hO : SpOn (D 102)) (hM : SpMore (D 101)) (hOp : SpOpen (D 197)) : SpAdds P m x1 x2 tb (F200 E D (drawW E D) N) :=
 fun _ _ _ _ _ _ _ _ _ _ _ _ _ _ _ _ _ _ _ _ _ ht hw h hP q0 q6 q7 hn hn2 hT nc tc tr tw hi hr h0 h128 hb hend afb avv alb nfb nvv l1 l2 l3 l5 l4 => adds_F h2N hPf hOS hS hO hM hOp ht hw h hP q0 q6 q7 hn hn2 hT nc tc tr tw hi hr h0 h128 hb hend afb avv alb nfb nvv l1 l2 l3 l5 l4
def vq (lb : Nat) : List V := [.int .i64 (Int.ofNat 7), .int .i64 (Int.ofNat 0), .nils, .sl lb 0 1 (.ex 1), .int .i64 (Int.ofNat 0), .nils]
theorem fields_r0 {σ : H} {db r6 tyb t0 fb : Nat} (ht : Tidy σ) (aty : Atc σ tyb (tyq t0 fb)) :
  ∃ env σ', drawW E D G113_0 H113_0 [(0, .ptr db 0), (1, .int .i64 (Int.ofNat 0)), (2, .int .i64 (Int.ofNat 1)), (6, .ptr r6 0), (7, .ptr tyb 0)] σ = some (env, σ') ∧
   Go.Og.look env 0 = some (.ptr db 0) ∧ Go.Og.look env 1 = some (.int .i64 (Int.ofNat 0)) ∧ Go.Og.look env 2 = some (.int .i64 (Int.ofNat 1)) ∧ Go.Og.look env 6 = some (.ptr r6 0) ∧ Go.Og.look env 7 = some (.ptr tyb 0) ∧ Go.Og.look env 8 = some (.ptr (σ.next + 7) 0) ∧
   Atc σ' (σ.next + 7) (vq (σ.next + 5)) ∧ Atc σ' (σ.next + 5) vz ∧ Fr Nowhere σ σ' := by
 have at' := aty
 unfold tyq at at'
 have mks : aopA (.mkslice 38 6 96 [(V.int .i64 (Int.ofNat 0)), (V.int .i64 (Int.ofNat 0)), V.nils, V.nils, (V.int .i64 (Int.ofNat 0)), V.nils] (.tmp 22) (.tmp 22)) [(22, .int .i64 (Int.ofNat 1)), (22, .int .i64 (Int.ofNat 1))] (σ.next + 5) = some (.sl (σ.next + 5) 0 1 (.ex 1), .cells vz) := rfl
 obtain ⟨σa, ha⟩ : ∃ σa, σa = (⟨σ.next + 9, (σ.next + 7, .cells vz) :: (σ.next + 5, .cells vz) :: σ.bl⟩ : H) := ⟨_, rfl⟩
 have ta : Tidy σa := by
  rw [ha]
  intro b hb
  have hb : σ.next + 9 ≤ b := hb
  show lookF ((σ.next + 7, _) :: (σ.next + 5, _) :: σ.bl) b = none
  rw [lookF_cons, if_neg (by simp only []; omega), lookF_cons, if_neg (by simp only []; omega)]
  exact ht b (by omega)
 have a7 : Atc σa (σ.next + 7) vz := by
  rw [ha]
  show lookF ((σ.next + 7, _) :: (σ.next + 5, _) :: σ.bl) _ = _
  rw [lookF_cons, if_pos rfl]
 have a5 : Atc σa (σ.next + 5) vz := by
  rw [ha]
  show lookF ((σ.next + 7, _) :: (σ.next + 5, _) :: σ.bl) _ = _
  rw [lookF_cons, if_neg (by simp only []; omega), lookF_cons, if_pos rfl]
 obtain ⟨σb, g, f, ab⟩ := st_den (E := E) (D := D) (n := 6) (cs := vq (σ.next + 5)) (x := .tmp 8) (y := .tmp 24) (e := [(8, .ptr (σ.next + 7) 0), (24, .agg (vq (σ.next + 5)))]) ta a7 rfl rfl rfl
 have go : Goes E D σ 9 0 Nowhere G113_0 H113_0 ⟨[(0, .ptr db 0), (1, .int .i64 (Int.ofNat 0)), (2, .int .i64 (Int.ofNat 1)), (6, .ptr r6 0), (7, .ptr tyb 0)], σ.next + 9, [σ.bl], [], 0, []⟩ _ σb :=
  go_p (.ptr tyb 0) rfl rfl <|
  go_l (.int .i64 (Int.ofNat 7)) (go_start ht) rfl (old_ld1 (b := tyb) (off := 0) rfl at' rfl ht (fun h => h) (beq_self _ rfl)) fun _ r1 =>
  go_p (.ptr tyb 9) rfl rfl <|
  go_l (.sl fb 0 1 (.op 11)) r1 rfl (old_ld1 (b := tyb) (off := 9) rfl at' rfl ht (fun h => h) (beq_self _ rfl)) fun _ r2 =>
  go_p (.int .i64 (Int.ofNat 1)) rfl rfl <|
  go_a (.sl (σ.next + 5) 0 1 (.ex 1)) (.cells vz) 32 r2 rfl (by decide) (by decide) mks fun _ r3 =>
  go_p (.agg (vq (σ.next + 5))) rfl rfl <|
  go_a (.ptr (σ.next + 7) 0) (.cells vz) 160 r3 rfl (by decide) (by decide) rfl fun _ r4 =>
  go_kn .dead (by rw [← ha] at r4; exact r4) rfl (by decide) (S' := fun b => b = σ.next + 7) f (fun b h e => by omega) (fun b e h1 _ => by rw [e, Nat.add_sub_cancel_left]; decide) g fun _ _ _ r5 =>
  go_nil r5
 obtain ⟨d1, d2⟩ := go_draw (ops := G113_0) go
 exact ⟨_, σb, d1, rfl, rfl, rfl, rfl, rfl, rfl, ab, f.at_ a5 ta (by omega), d2⟩
theorem fields_r1 {P : H → Prop} (hPf : ∀ σ σ', Tidy σ → Fr Nowhere σ σ' → P σ → P σ') {σ : H} {db wb cb tb r6 tyb t0 fb v8 : Nat} {m : BS} {x1 x2 : V} (hF : SpOF P m x1 x2 tb (D 154)) (hS : SpSome (D 199)) (ht : Tidy σ) (hP : P σ)
  (ad : Atc σ db (dec wb m x1 x2 tb 2 cb)) (b1 : V.beq x1 x1 = true) (b2 : V.beq x2 x2 = true) (aty : Atc σ tyb (tyq t0 fb)) :
  ∃ env σ', drawW E D G113_1 H113_1 [(0, .ptr db 0), (1, .int .i64 (Int.ofNat 0)), (2, .int .i64 (Int.ofNat 1)), (6, .ptr r6 0), (7, .ptr tyb 0), (8, .ptr v8 0), (9, .bool true)] σ = some (env, σ') ∧
   Go.Og.look env 0 = some (.ptr db 0) ∧ Go.Og.look env 1 = some (.int .i64 (Int.ofNat 0)) ∧ Go.Og.look env 2 = some (.int .i64 (Int.ofNat 1)) ∧ Go.Og.look env 6 = some (.ptr r6 0) ∧ Go.Og.look env 8 = some (.ptr v8 0) ∧ Go.Og.look env 9 = some (.bool true) ∧
   Fr Nowhere σ σ' := by
 unfold dec at ad
 have fw : Fr Nowhere σ ⟨σ.next + 13, σ.bl⟩ := (go_start (E := E) (n := 13) (S := Nowhere) ht).fr
 obtain ⟨fo, σ1, g1, f1⟩ := hF ⟨σ.next + 13, σ.bl⟩ fw.tidy (hPf _ _ ht fw hP)
 obtain ⟨σ2, g2, f2⟩ := hS σ1 db v8 t0 fb (.sl fo 0 0 (.op 1)) (Int.ofNat 1) f1.tidy (fun _ => rfl)
 have sl0 : aopP (.sliceSl 1 (.tmp 49) none (some (.tmp 51)) none) [(49, .sl fo 0 1 (.op 1)), (51, .int .i64 (Int.ofNat 0))] = some (.sl fo 0 0 (.op 1)) := rfl
 have tq : V.beq (.agg (tyq t0 fb)) (.agg (tyq t0 fb)) = true := beq_self _ rfl
 have go : Goes E D σ 13 0 Nowhere G113_1 H113_1 ⟨[(0, .ptr db 0), (1, .int .i64 (Int.ofNat 0)), (2, .int .i64 (Int.ofNat 1)), (6, .ptr r6 0), (7, .ptr tyb 0), (8, .ptr v8 0), (9, .bool true)], σ.next + 13, [σ.bl], [], 0, []⟩ _ σ2 :=
  go_p (.ptr db 0) rfl rfl <|
  go_l (.agg (tyq t0 fb)) (go_start ht) rfl (old_ldn (b := tyb) (off := 0) (m := 13) rfl aty rfl rfl ht (fun h => h) tq) fun _ r1 =>
  go_p (.ptr db 0) rfl rfl <|
  go_p (.ptr db 0) rfl rfl <|
  go_p (.ptr db 1) rfl rfl <|
  go_l (.agg [.str m, x1, x2, .sl tb 0 2 (.op 13)]) r1 rfl (old_ldn (b := db) (off := 1) (m := 4) rfl ad rfl rfl ht (fun h => h) (by
   show beqs [V.str m, x1, x2, V.sl tb 0 2 (.op 13)] [V.str m, x1, x2, V.sl tb 0 2 (.op 13)] = true
   simp only [beqs, b1, b2, beq_self (.str m) rfl, beq_self (.sl tb 0 2 (.op 13)) rfl, Bool.and_true])) fun _ r2 =>
  go_p (.int .i64 (Int.ofNat 0)) rfl rfl <|
  go_k (.sl fo 0 1 (.op 1)) r2 rfl (by decide) (S' := Nowhere) f1 (fun _ _ h => h.elim) (fun _ h _ _ => h) (call_of (vs := [.agg [.str m, x1, x2, .sl tb 0 2 (.op 13)], .int .i64 (Int.ofNat 0)]) rfl rfl g1) fun _ _ _ r3 =>
  go_p (.ptr tyb 10) rfl rfl <|
  go_l (.int .i64 (Int.ofNat 0)) r3 rfl (old_ld1 (b := tyb) (off := 10) rfl aty rfl ht (fun h => h) (beq_self _ rfl)) fun _ r4 =>
  go_p (.sl fo 0 0 (.op 1)) rfl sl0 <|
  go_p (.int .i64 (Int.ofNat 1)) rfl rfl <|
  go_k (.bool false) r4 rfl (by decide) (S' := Nowhere) f2 (fun _ _ h => h.elim) (fun _ h _ _ => h) (call_of (vs := [.ptr db 0, .agg (tyq t0 fb), .ptr v8 0, .sl fo 0 0 (.op 1), .int .i64 (Int.ofNat 1)]) rfl rfl g2) fun _ _ _ r5 =>
  go_nil r5
 obtain ⟨d1, d2⟩ := go_draw (ops := G113_1) go
 exact ⟨_, σ2, d1, rfl, rfl, rfl, rfl, rfl, rfl, d2⟩
def SpFields (P : H → Prop) (m : BS) (x1 x2 : V) (tb : Nat) (F : List V → H → Ans) : Prop := ∀ (σ : H) (db wb rb cb t0 t1 fb i n0 : Nat) (v : V) (O : List Nat) (em : Bool) (n : Int),
  Tidy σ → Rw σ wb rb v O i (Int.ofNat 0) em → De σ db wb rb cb tb 2 m x1 x2 n → P σ → (∀ σ σ', Tidy σ → Fr (fun k => k = rb ∨ k = cb) σ σ' → P σ → P σ') →
  bit (bitsO O) i = 1 → bit (bitsO O) (i + 1) = 0 → readV (bitsO O) (i + 1 + 1) 6 0 = 0 → bit (bitsO O) (i + 1 + 7) = 1 →
  leF (addF .i64 n (Int.ofNat 1)) (Int.ofNat 5000) = true → leF (addF .i64 (addF .i64 n (Int.ofNat 1)) (Int.negSucc 0)) (Int.ofNat 5000) = true → leF (addF .i64 (addF .i64 (addF .i64 n (Int.ofNat 1)) (Int.negSucc 0)) (Int.ofNat 1)) (Int.ofNat 5000) = true →
  Atc σ tb (tyc t0 t1 fb) → ¬ Names v cb → tb ≠ cb → tb ≠ rb → tb ≠ wb →
  i + 1 + 8 + 8 + 8 * n0 ≤ 8 * O.length → readV (bitsO O) (i + 1 + 8) 8 0 = n0 → 0 < n0 → n0 < 128 → (∀ c ∈ octR (bitsO O) (i + 1 + 8 + 8) n0, c < 256) → endN (octR (bitsO O) (i + 1 + 8 + 8) n0) 1 ≠ 0 →
  Atc σ fb fdc → fb ≠ rb → fb ≠ cb →
  ∃ lb σ', F [.ptr db 0, .int .i64 (Int.ofNat 0), .int .i64 (Int.ofNat 1)] σ = some (.agg (vq lb), σ') ∧ Rw σ' wb rb v O (i + 1 + 8 + 8 + 8 * n0) (Int.ofNat 4) em ∧ Fr (fun k => k = wb ∨ k = rb ∨ k = cb) σ σ'
theorem fields_F {P : H → Prop} (hPf : ∀ σ σ', Tidy σ → Fr Nowhere σ σ' → P σ → P σ') {m : BS} {x1 x2 : V} {tb : Nat} (hM : SpMore (D 101)) (hN : SpBadNo (D 100)) (hFl : SpFlag (D 184)) (hOF : SpOF P m x1 x2 tb (D 154)) (hSo : SpSome (D 199)) (hO : SpOn (D 102)) (hA : SpAdds P m x1 x2 tb (D 200)) :
  SpFields P m x1 x2 tb (F113 E D (drawW E D) N) := by
 intro σ db wb rb cb t0 t1 fb i n0 v O em n ht hw h hP hPr q1 q0 q6 q7 hn hn2 hn3 hT nc tc tr tw hi hr h0 h128 hb hend afb fr fc
 obtain ⟨σ1, e1, f1, a1, n1⟩ := mk_new ht vz
 obtain ⟨σ2, e2, f2, a2, n2⟩ := mk_new f1.tidy [.int .i64 (Int.ofNat 0), .nils, .bool false, .bool false, .bool false, .bool false, .int .i64 (Int.ofNat 0), .int .i64 (Int.ofNat 0), .nils, .nils, .int .i64 (Int.ofNat 0), .bool false, .int .i64 (Int.ofNat 0)]
 obtain ⟨σ3, e3, f3, a3⟩ := mk_set f2.tidy a2 (tyq t0 fb)
 have f13 : Fr Nowhere σ1 σ3 := f2.trans f3 (fun b hb e => by omega)
 have f03 : Fr Nowhere σ σ3 := f1.trans f13 (fun _ _ h => h)
 have r3 := f13.at_ a1 f1.tidy (fun h => h)
 obtain ⟨e', σ4, g4, u0, u1, u2, u6, u7, u8, a8, a5, f4⟩ := fields_r0 (E := E) (D := D) (db := db) (r6 := σ.next) f3.tidy a3
 have le13 := f13.le
 have le34 := f4.le
 have f04 : Fr Nowhere σ σ4 := f03.trans f4 (fun _ _ h => h)
 have hd4 := h.fr f04 ht (fun h => h) (fun h => h)
 have w4 := hw.fr0 f04 ht
 have ty4 := f4.at_ a3 f3.tidy (fun h => h)
 have r4 := f4.at_ r3 f3.tidy (fun h => h)
 have lc := h.c.lt ht
 have lr := hw.pl.at_.lt ht
 have lw := hw.at_.lt ht
 have ld := h.d.lt ht
 have l8 := a8.lt f4.tidy
 have l5 := a5.lt f4.tidy
 have lv : ∀ c, Names v c → c < σ.next := fun c hc => Src.lt hw.pl.by_ ht hc
 obtain ⟨σ5, g5, c5, f5⟩ := hM σ4 cb n (Int.ofNat 1) hd4.c f4.tidy hn
 have hd5 : De σ5 db wb rb cb tb 2 m x1 x2 (addF .i64 n (Int.ofNat 1)) := ⟨f5.at_ hd4.d f4.tidy h.dc, c5, h.one1, h.one2, h.beq1, h.beq2, h.dw, h.dr, h.dc, h.cw, h.cr⟩
 have w5 := w4.fr f5 f4.tidy (fun e => h.cw e.symm) (fun e => h.cr e.symm) (fun c hc e => nc (by rw [← e]; exact hc))
 have b5 := hN σ5 db
 obtain ⟨σ6, g6, w6, f6⟩ := hFl σ5 db wb rb i v O em _ w5 f5.tidy (by omega) hd5.d
 rw [q1] at g6
 have f46 : Fr (fun k => k = rb ∨ k = cb) σ4 σ6 := (f5.mono (fun _ _ h => .inr h) : Fr (fun k => k = rb ∨ k = cb) σ4 σ5).trans f6 (fun _ _ h => .inl h)
 have nn : ∀ b, σ.next ≤ b → ¬ (b = rb ∨ b = cb) := fun b hb => by omega
 have hP6 := hPr σ4 σ6 f4.tidy f46 (hPf σ σ4 ht f04 hP)
 have hd6 := hd5.fr f6 f5.tidy h.dr h.cr
 have ty6 := f46.at_ ty4 f4.tidy (nn _ (by omega))
 have r6 := f46.at_ r4 f4.tidy (nn _ (Nat.le_refl _))
 have v6 := f46.at_ a8 f4.tidy (nn _ (by omega))
 have l6 := f46.at_ a5 f4.tidy (nn _ (by omega))
 obtain ⟨e'', σ7, g7, y0, y1, y2, y6, y8, y9, f7⟩ := fields_r1 (E := E) (D := D) (r6 := σ.next) (v8 := σ3.next + 7) hPf hOF hSo f6.tidy hP6 hd6.d h.beq1 h.beq2 ty6
 have hd7 := hd6.fr f7 f6.tidy (fun h => h) (fun h => h)
 have w7 := w6.fr0 f7 f6.tidy
 have o7 := hO σ7 db wb rb (i + 1) 0 v O em _ w7 hd7.d
 have r7 := f7.at_ r6 f6.tidy (fun h => h)
 have v7 := f7.at_ v6 f6.tidy (fun h => h)
 have l7 := f7.at_ l6 f6.tidy (fun h => h)
 have f47 : Fr (fun k => k = rb ∨ k = cb) σ4 σ7 := f46.trans f7 (fun _ _ h => h.elim)
 have T7 := f47.at_ (f04.at_ hT ht (fun h => h)) f4.tidy (by omega)
 have fb7 := f47.at_ (f04.at_ afb ht (fun h => h)) f4.tidy (by omega)
 obtain ⟨σ8, g8, w8, f8⟩ := hA σ7 db wb rb cb t0 t1 fb (i + 1) (σ3.next + 7) (σ3.next + 5) n0 v O em _ (.int .i64 (Int.ofNat 7)) (.int .i64 (Int.ofNat 0)) .nils (.int .i64 (Int.ofNat 0)) .nils f7.tidy w7 hd7 (hPf _ _ f6.tidy f7 hP6) q0 q6 q7 hn2 hn3 T7 nc tc tr tw hi hr h0 h128 hb hend fb7 v7 l7
  ⟨fr, fc, by have := afb.lt ht; omega⟩ ⟨by omega, by omega, by omega⟩ (by omega) (by omega) (by omega) (by omega) (fun hc => by have := lv _ hc; omega)
 have lef := f47.le
 have v8 := f8.at_ v7 f7.tidy (by omega)
 have r8 := f8.at_ r7 f7.tidy (by omega)
 obtain ⟨σ9, e9, f9, a9⟩ := mk_set f8.tidy r8 (vq (σ3.next + 5))
 refine ⟨σ3.next + 5, σ9, ?_, w8.fr f9 f8.tidy (by omega) (by omega) (fun c hc e => by have := lv c hc; omega), ?_⟩
 ·have s3 : ∀ κ : H → Ans, stK 13 σ1.next 0 (.agg (tyq t0 fb)) σ2 κ = κ σ3 := fun κ => by
   rw [stK_at a2 rfl]
   show κ (setF σ2 σ1.next (.cells (tyq t0 fb))) = _
   rw [e3]
  have ia : ∀ κ : Nat → Nat → Ans, iaddrSK 13 (.sl tb 0 2 (.op 13)) (Int.ofNat 0) κ = κ tb 0 := fun κ => iaddrSK_lt (by decide)
  have kd : ∀ κ : V → Ans, ldK E σ1 db 4 κ = κ (.sl tb 0 2 (.op 13)) := fun κ => (ldK_is (f1.at_ h.d ht (fun h => h))).trans rfl
  have lT : ∀ κ : List V → Ans, ldnK E σ1 tb 0 13 κ = κ (tyq t0 fb) := fun κ => (ldnK_is (f1.at_ hT ht (fun h => h))).trans rfl
  have gd4 : ∀ κ : Env → H → Ans, gdrawK (drawW E D G113_0 H113_0 [(0, .ptr db 0), (1, .int .i64 (Int.ofNat 0)), (2, .int .i64 (Int.ofNat 1)), (6, .ptr σ.next 0), (7, .ptr σ1.next 0)] σ3) κ = κ e' σ4 := fun κ => by rw [g4]; rfl
  have z0 : ∀ κ : V → Ans, getL e' 0 κ = κ (.ptr db 0) := fun κ => getL_of u0 rfl
  have z1 : ∀ κ : V → Ans, getL e' 1 κ = κ (.int .i64 (Int.ofNat 0)) := fun κ => getL_of u1 rfl
  have z2 : ∀ κ : V → Ans, getL e' 2 κ = κ (.int .i64 (Int.ofNat 1)) := fun κ => getL_of u2 rfl
  have z6 : ∀ κ : V → Ans, getL e' 6 κ = κ (.ptr σ.next 0) := fun κ => getL_of u6 rfl
  have z7 : ∀ κ : V → Ans, getL e' 7 κ = κ (.ptr σ1.next 0) := fun κ => getL_of u7 rfl
  have z8 : ∀ κ : V → Ans, getL e' 8 κ = κ (.ptr (σ3.next + 7) 0) := fun κ => getL_of u8 rfl
  have gd7 : ∀ κ : Env → H → Ans, gdrawK (drawW E D G113_1 H113_1 [(0, .ptr db 0), (1, .int .i64 (Int.ofNat 0)), (2, .int .i64 (Int.ofNat 1)), (6, .ptr σ.next 0), (7, .ptr σ1.next 0), (8, .ptr (σ3.next + 7) 0), (9, .bool true)] σ6) κ = κ e'' σ7 := fun κ => by rw [g7]; rfl
  have k0 : ∀ κ : V → Ans, getL e'' 0 κ = κ (.ptr db 0) := fun κ => getL_of y0 rfl
  have k1 : ∀ κ : V → Ans, getL e'' 1 κ = κ (.int .i64 (Int.ofNat 0)) := fun κ => getL_of y1 rfl
  have k2 : ∀ κ : V → Ans, getL e'' 2 κ = κ (.int .i64 (Int.ofNat 1)) := fun κ => getL_of y2 rfl
  have k6 : ∀ κ : V → Ans, getL e'' 6 κ = κ (.ptr σ.next 0) := fun κ => getL_of y6 rfl
  have k8 : ∀ κ : V → Ans, getL e'' 8 κ = κ (.ptr (σ3.next + 7) 0) := fun κ => getL_of y8 rfl
  have k9 : ∀ κ : V → Ans, getL e'' 9 κ = κ (.bool true) := fun κ => getL_of y9 rfl
  have kc : ∀ κ : V → Ans, ldK E σ4 db 5 κ = κ (.ptr cb 0) := fun κ => (ldK_is hd4.d).trans rfl
  have kf : ∀ κ : V → Ans, ldK E σ4 σ1.next 9 κ = κ (.sl fb 0 1 (.op 11)) := fun κ => (ldK_is ty4).trans rfl
  have km : ∀ κ : V → Ans, ldK E σ5 σ1.next 11 κ = κ (.bool true) := fun κ => (ldK_is (f5.at_ ty4 f4.tidy (by omega))).trans rfl
  have m8 : ∀ κ : List V → Ans, ldnK E σ8 (σ3.next + 7) 0 6 κ = κ (vq (σ3.next + 5)) := fun κ => (ldnK_is v8).trans rfl
  have s9 : ∀ κ : H → Ans, stK 6 σ.next 0 (.agg (vq (σ3.next + 5))) σ8 κ = κ σ9 := fun κ => by
   rw [stK_at r8 rfl]
   show κ (setF σ8 σ.next (.cells (vq (σ3.next + 5)))) = _
   rw [e9]
  have m9 : ∀ κ : List V → Ans, ldnK E σ9 σ.next 0 6 κ = κ (vq (σ3.next + 5)) := fun κ => (ldnK_is a9).trans rfl
  have hd : decide (1 = 1) = true := rfl
  unfold vz at e1
  unfold tyq at lT s3
  show T113_0 E D (drawW E D) (T113_1 E D (drawW E D)) db 0 (Int.ofNat 0) (Int.ofNat 1) σ = _
  have kk : ∀ K, T113_0 E D (drawW E D) K db 0 (Int.ofNat 0) (Int.ofNat 1) σ = K σ.next 0 (σ3.next + 7) 0 σ8 := by
   intro K
   unfold T113_0
   simp -implicitDefEqProofs only [↓nthK_zero, ↓nthK_succ, ↓subK_2, ↓subK_4, ↓subK_5, ↓subK_6, ↓subK_13, ↓subK_con, ↓rtInt_int, ↓rtBool_bool, ↓rtStr_str, ↓rtPtr_ptr, ↓rtAgg_agg, ↓rtTup_tup, ↓rtCons_cons, ↓rtNil_nil, ↓rtOne_nils, ↓rtOne_pt, ↓rtOne_sl, ↓slenK_nils, ↓slenK_sl, ↓callK_some_, ↓condK_ift, ↓condK_iff, ↓chk_if, ↓joinB_, cells_agg, cells_int, cells_ptr, allOne_cons, allOne_nil, one_int, one_bool, one_str, one_nils, one_sl, one_ptr, Bool.and_true, Nat.add_eq, Nat.zero_add, Bool.not_true, Bool.not_false, eqF_nat, ltF_nat, leF_nat, Nat.reduceEqDiff, Nat.reduceLT, Nat.reduceLeDiff, decide_false, decide_true, Bool.false_or, Bool.true_or, Bool.or_false, Bool.or_true, Bool.false_and, Bool.true_and, Bool.and_false, ↓e1, ↓kd, ↓ia, ↓lT, ↓e2, ↓s3, ↓gd4, ↓z0, ↓z1, ↓z2, ↓z6, ↓z7, ↓z8, ↓kc, ↓kf, ↓g5, ↓b5, ↓km, ↓g6, ↓gd7, ↓k0, ↓k1, ↓k2, ↓k6, ↓k8, ↓k9, ↓o7, ↓g8]
  rw [kk]
  unfold T113_1
  refine (m8 _).trans ?_
  unfold vq at s9 ⊢
  simp -implicitDefEqProofs only [↓nthK_zero, ↓nthK_succ, ↓subK_2, ↓subK_4, ↓subK_5, ↓subK_6, ↓subK_13, ↓subK_con, ↓rtInt_int, ↓rtBool_bool, ↓rtStr_str, ↓rtPtr_ptr, ↓rtAgg_agg, ↓rtTup_tup, ↓rtCons_cons, ↓rtNil_nil, ↓rtOne_nils, ↓rtOne_pt, ↓rtOne_sl, ↓slenK_nils, ↓slenK_sl, ↓callK_some_, ↓condK_ift, ↓condK_iff, ↓chk_if, ↓joinB_, cells_agg, cells_int, cells_ptr, allOne_cons, allOne_nil, one_int, one_bool, one_str, one_nils, one_sl, one_ptr, Bool.and_true, Nat.add_eq, Nat.zero_add, Bool.not_true, Bool.not_false, ↓s9]
  exact m9 _
 ·exact (((f04.mono (fun _ _ h => h.elim) : Fr (fun k => k = wb ∨ k = rb ∨ k = cb) σ σ4).trans f47 (fun _ _ h => .inr h)).trans f8 (fun b hb e => by omega)).trans f9 (fun b hb e => by omega)
end
end
end Go.Proofs.YtgjjnbddbbhloaaGreatDoor
set_option linter.all false
set_option maxRecDepth 100000
namespace Go.Proofs.YtgjjnbddbbhloaaGreatDoor
open Go Go.Og
noncomputable section
section
variable {E : List (Nat × Blk)} {D : Den} {N : Nat}
def SpSeq (P : H → Prop) (m : BS) (x1 x2 : V) (tb : Nat) (F : List V → H → Ans) : Prop := ∀ (σ : H) (db wb rb cb t0 t1 fb i n0 : Nat) (v : V) (O : List Nat) (em : Bool),
  Tidy σ → Rw σ wb rb v O i (Int.ofNat 0) em → De σ db wb rb cb tb 2 m x1 x2 (Int.ofNat 0) → P σ → (∀ σ σ', Tidy σ → Fr (fun k => k = rb ∨ k = cb) σ σ' → P σ → P σ') →
  bit (bitsO O) i = 1 → bit (bitsO O) (i + 1) = 0 → readV (bitsO O) (i + 1 + 1) 6 0 = 0 → bit (bitsO O) (i + 1 + 7) = 1 →
  Atc σ tb (tyc t0 t1 fb) → ¬ Names v cb → tb ≠ cb → tb ≠ rb → tb ≠ wb →
  i + 1 + 8 + 8 + 8 * n0 ≤ 8 * O.length → readV (bitsO O) (i + 1 + 8) 8 0 = n0 → 0 < n0 → n0 < 128 → (∀ c ∈ octR (bitsO O) (i + 1 + 8 + 8) n0, c < 256) → endN (octR (bitsO O) (i + 1 + 8 + 8) n0) 1 ≠ 0 →
  Atc σ fb fdc → fb ≠ rb → fb ≠ cb →
  ∃ lb σ', F [.ptr db 0, .int .i64 (Int.ofNat 0), .int .i64 (Int.ofNat 1)] σ = some (.agg (vq lb), σ') ∧ Rw σ' wb rb v O (i + 1 + 8 + 8 + 8 * n0) (Int.ofNat 4) em ∧ Fr (fun k => k = wb ∨ k = rb ∨ k = cb) σ σ'
theorem vseq_F {P : H → Prop} (hPf : ∀ σ σ', Tidy σ → Fr Nowhere σ σ' → P σ → P σ') {m : BS} {x1 x2 : V} {tb : Nat} (hM : SpMore (D 101)) (hN : SpBadNo (D 100)) (hO : SpOn (D 102)) (hFi : SpFields P m x1 x2 tb (D 113)) :
  SpSeq P m x1 x2 tb (F51 E D (drawW E D) N) := by
 intro σ db wb rb cb t0 t1 fb i n0 v O em ht hw h hP hPr q1 q0 q6 q7 hT nc tc tr tw hi hr h0 h128 hb hend afb fr fc
 obtain ⟨σ1, e1, f1, a1, n1⟩ := mk_new ht [.ptr db 0]
 obtain ⟨σ2, e2, f2, a2, n2⟩ := mk_new f1.tidy vz
 have f02 : Fr Nowhere σ σ2 := f1.trans f2 (fun _ _ h => h)
 have c2 := f2.at_ a1 f1.tidy (fun h => h)
 have h2 := h.fr f02 ht (fun h => h) (fun h => h)
 have lc := h.c.lt ht
 have ld := h.d.lt ht
 have lw := hw.at_.lt ht
 have lr := hw.pl.at_.lt ht
 have lv : ∀ c, Names v c → c < σ.next := fun c hc => Src.lt hw.pl.by_ ht hc
 obtain ⟨e', σ3, g3, q1', q2', q3', q6', c3, f3⟩ := vhead (E := E) (D := D) (ve := σ1.next) (k := 0) (dp := 1) hM hN f02.tidy h2 c2 (by omega) (.inl ⟨rfl, rfl⟩) rfl (by decide)
 have b3 := f3.at_ c2 f02.tidy (by omega)
 have z3 := f3.at_ a2 f02.tidy (by omega)
 have d3 := f3.at_ h2.d f02.tidy h.dc
 have T3 := f3.at_ (f02.at_ hT ht (fun h => h)) f02.tidy tc
 have w3 := (hw.fr0 f02 ht).fr f3 f02.tidy (fun e => h.cw e.symm) (fun e => h.cr e.symm) (fun c hc e => nc (by cases e; exact hc))
 have o3 := hO σ3 db wb rb i 0 v O em _ w3 d3
 have hP3 := hPr _ _ f02.tidy (f3.mono fun _ _ h => .inr h) (hPf _ _ ht f02 hP)
 obtain ⟨σ4, e4, f4, a4, n4⟩ := mk_new f3.tidy vz
 obtain ⟨σ5, e5, f5, a5⟩ := mk_set f4.tidy a4 [.int .i64 (Int.ofNat 7), .int .i64 (Int.ofNat 0), .nils, .nils, .int .i64 (Int.ofNat 0), .nils]
 have f35 : Fr Nowhere σ3 σ5 := f4.trans f5 (fun b hb e => by omega)
 have le2 := f02.le
 have le3 := f3.le
 have b5 := f35.at_ b3 f3.tidy (fun h => h)
 have z5 := f35.at_ z3 f3.tidy (fun h => h)
 have hd5 : De σ5 db wb rb cb tb 2 m x1 x2 (addF .i64 (Int.ofNat 0) (Int.ofNat 1)) := ⟨f35.at_ d3 f3.tidy (fun h => h), f35.at_ c3 f3.tidy (fun h => h), h.one1, h.one2, h.beq1, h.beq2, h.dw, h.dr, h.dc, h.cw, h.cr⟩
 have T5 := f35.at_ T3 f3.tidy (fun h => h)
 have fb5 := f35.at_ (f3.at_ (f02.at_ afb ht (fun h => h)) f02.tidy fc) f3.tidy (fun h => h)
 obtain ⟨lb, σ6, g6, w6, f6⟩ := hFi σ5 db wb rb cb t0 t1 fb i n0 v O em _ f35.tidy (w3.fr0 f35 f3.tidy) hd5 (hPf _ _ f3.tidy f35 hP3) hPr q1 q0 q6 q7 (by decide) (by decide) (by decide) T5 nc tc tr tw hi hr h0 h128 hb hend fb5 fr fc
 have z6 := f6.at_ z5 f35.tidy (by omega)
 obtain ⟨σ7, e7, f7, a7⟩ := mk_set f6.tidy z6 (vq lb)
 refine ⟨lb, σ7, ?_, w6.fr f7 f6.tidy (by omega) (by omega) (fun c hc e => by have := lv c hc; omega), ?_⟩
 ·have s5 : ∀ κ : H → Ans, stK 6 σ3.next 0 (.agg [.int .i64 (Int.ofNat 7), .int .i64 (Int.ofNat 0), .nils, .nils, .int .i64 (Int.ofNat 0), .nils]) σ4 κ = κ σ5 := fun κ => by
   rw [stK_at a4 rfl]
   show κ (setF σ4 σ3.next (.cells _)) = _
   rw [show spl vz 0 (V.agg [.int .i64 (Int.ofNat 7), .int .i64 (Int.ofNat 0), .nils, .nils, .int .i64 (Int.ofNat 0), .nils]).cells = [.int .i64 (Int.ofNat 7), .int .i64 (Int.ofNat 0), .nils, .nils, .int .i64 (Int.ofNat 0), .nils] from rfl, e5]
  have s7 : ∀ κ : H → Ans, stK 6 σ1.next 0 (.agg (vq lb)) σ6 κ = κ σ7 := fun κ => by
   rw [stK_at z6 rfl]
   show κ (setF σ6 σ1.next (.cells (vq lb))) = _
   rw [e7]
  have ia : ∀ κ : Nat → Nat → Ans, iaddrSK 13 (.sl tb 0 2 (.op 13)) (Int.ofNat 0) κ = κ tb 0 := fun κ => iaddrSK_lt (by decide)
  have lT : ∀ κ : List V → Ans, ldnK E σ3 tb 0 13 κ = κ (tyq t0 fb) := fun κ => (ldnK_is T3).trans rfl
  have l7 : ∀ κ : List V → Ans, ldnK E σ7 σ1.next 0 6 κ = κ (vq lb) := fun κ => (ldnK_is a7).trans rfl
  have gd : ∀ κ : Env → H → Ans, gdrawK (drawW E D G51_0 H51_0 [(1, .int .i64 (Int.ofNat 0)), (2, .int .i64 (Int.ofNat 1)), (3, .ptr σ.next 0), (6, .ptr σ1.next 0)] σ2) κ = κ e' σ3 := fun κ => by rw [g3]; rfl
  have l1 : ∀ κ : V → Ans, getL e' 1 κ = κ (.int .i64 (Int.ofNat 0)) := fun κ => getL_of q1' rfl
  have l2 : ∀ κ : V → Ans, getL e' 2 κ = κ (.int .i64 (Int.ofNat 1)) := fun κ => getL_of q2' rfl
  have l3 : ∀ κ : V → Ans, getL e' 3 κ = κ (.ptr σ.next 0) := fun κ => getL_of q3' rfl
  have l6 : ∀ κ : V → Ans, getL e' 6 κ = κ (.ptr σ1.next 0) := fun κ => getL_of q6' rfl
  have kd : ∀ κ : V → Ans, ldK E σ3 db 4 κ = κ (.sl tb 0 2 (.op 13)) := fun κ => (ldK_is d3).trans rfl
  unfold vz at e2 e4
  unfold tyq at lT
  unfold vq at g6 s7
  show T51_0 E D (drawW E D) (T51_1 E D (drawW E D)) (T51_2 E D (drawW E D) (T51_1 E D (drawW E D))) (.ptr db 0) (Int.ofNat 0) (Int.ofNat 1) σ = _
  have k1 : ∀ K1 K2, T51_0 E D (drawW E D) K1 K2 (.ptr db 0) (Int.ofNat 0) (Int.ofNat 1) σ = K2 (Int.ofNat 0) (Int.ofNat 1) σ.next 0 σ1.next 0 σ3.next 0 true σ5 := by
   intro K1 K2
   unfold T51_0
   simp -implicitDefEqProofs only [↓nthK_zero, ↓nthK_succ, ↓subK_2, ↓subK_4, ↓subK_5, ↓subK_6, ↓subK_13, ↓subK_con, ↓rtInt_int, ↓rtBool_bool, ↓rtStr_str, ↓rtPtr_ptr, ↓rtAgg_agg, ↓rtTup_tup, ↓rtCons_cons, ↓rtNil_nil, ↓rtOne_nils, ↓rtOne_pt, ↓rtOne_sl, ↓slenK_nils, ↓slenK_sl, ↓callK_some_, ↓condK_ift, ↓condK_iff, ↓chk_if, ↓joinB_, cells_agg, cells_int, cells_ptr, allOne_cons, allOne_nil, one_int, one_bool, one_str, one_nils, one_sl, one_ptr, Bool.and_true, Nat.add_eq, Nat.zero_add, Bool.not_true, Bool.not_false, eqF_nat, ltF_nat, leF_nat, Nat.reduceEqDiff, Nat.reduceLT, Nat.reduceLeDiff, decide_false, decide_true, Bool.false_or, Bool.true_or, Bool.or_false, Bool.or_true, Bool.false_and, Bool.true_and, Bool.and_false, ↓e1, ↓e2, ↓gd, ↓l1, ↓l2, ↓l3, ↓l6, ↓ldK_is b3, ↓o3, ↓kd, ↓ia, ↓lT, ↓e4, ↓s5]
  rw [k1]
  unfold T51_2
  simp -implicitDefEqProofs only [↓nthK_zero, ↓nthK_succ, ↓subK_2, ↓subK_4, ↓subK_5, ↓subK_6, ↓subK_13, ↓subK_con, ↓rtInt_int, ↓rtBool_bool, ↓rtStr_str, ↓rtPtr_ptr, ↓rtAgg_agg, ↓rtTup_tup, ↓rtCons_cons, ↓rtNil_nil, ↓rtOne_nils, ↓rtOne_pt, ↓rtOne_sl, ↓slenK_nils, ↓slenK_sl, ↓callK_some_, ↓condK_ift, ↓condK_iff, ↓chk_if, ↓joinB_, cells_agg, cells_int, cells_ptr, allOne_cons, allOne_nil, one_int, one_bool, one_str, one_nils, one_sl, one_ptr, Bool.and_true, Nat.add_eq, Nat.zero_add, Bool.not_true, Bool.not_false, ↓ldK_is b5, ↓g6, ↓s7]
  exact l7 _
 ·refine ((((f02.mono (fun _ _ h => h.elim) : Fr (fun k => k = wb ∨ k = rb ∨ k = cb) σ σ2).trans f3 (fun _ _ h => .inr (.inr h))).trans f35 (fun _ _ h => h.elim)).trans f6 (fun _ _ h => h)).trans f7 (fun b hb e => by omega)
def SpMade (P : H → Prop) (m : BS) (x1 x2 : V) (tb : Nat) (F : List V → H → Ans) : Prop := ∀ σ, Tidy σ → P σ → ∃ σ', F [.agg [.str m, x1, x2, .sl tb 0 2 (.op 13)]] σ = some (.bool true, σ') ∧ Fr Nowhere σ σ'
def SpDec (P : H → Prop) (m : BS) (x1 x2 : V) (tb : Nat) (F : List V → H → Ans) : Prop := ∀ (σ : H) (t0 t1 fb n0 : Nat) (x : V) (O : List Nat), Tidy σ → P σ → By σ x (nI O) → (∀ c ∈ O, c < 256) → O.length ≤ 10000 →
  bit (bitsO O) 0 = 1 → bit (bitsO O) 1 = 0 → readV (bitsO O) 2 6 0 = 0 → bit (bitsO O) 8 = 1 → Atc σ tb (tyc t0 t1 fb) → Atc σ fb fdc →
  17 + 8 * n0 ≤ 8 * O.length → readV (bitsO O) 9 8 0 = n0 → 0 < n0 → n0 < 128 → (∀ c ∈ octR (bitsO O) 17 n0, c < 256) → endN (octR (bitsO O) 17 n0) 1 ≠ 0 →
  ∃ σ', F [.agg [.str m, x1, x2, .sl tb 0 2 (.op 13)], .int .i64 (Int.ofNat 0), x] σ = some (.tup [.agg vz, .int .i64 (Int.ofNat 4)], σ') ∧ Fr Nowhere σ σ'
theorem dec_F {P : H → Prop} (hPf : ∀ σ σ', Tidy σ → Fr Nowhere σ σ' → P σ → P σ') (hPs : ∀ σ0, Tidy σ0 → P σ0 → ∀ rb cb, σ0.next ≤ rb → σ0.next ≤ cb → ∀ σ σ', Tidy σ → Fr (fun k => k = rb ∨ k = cb) σ σ' → P σ → P σ')
  {m : BS} {x1 x2 : V} {tb : Nat} (o1 : x1.one = true) (o2 : x2.one = true) (b1 : V.beq x1 x1 = true) (b2 : V.beq x2 x2 = true) (hMa : SpMade P m x1 x2 tb (D 49)) (hW : SpNewW (D 50)) (hS : SpSeq P m x1 x2 tb (D 51)) (hE : SpWend (D 52)) :
  SpDec P m x1 x2 tb (F32 E D (drawW E D) N) := by
 intro σ t0 t1 fb n0 x O ht hP hx hc hl q1 q0 q6 q7 hT hfb hi hr h0 h128 hb hend
 have ho : allOne [.str m, x1, x2, V.sl tb 0 2 (.op 13)] = true := by simp only [allOne_cons, allOne_nil, one_str, one_sl, o1, o2, Bool.and_true]
 obtain ⟨σ1, e1, f1, a1, n1⟩ := mk_new ht [.str m, x1, x2, .sl tb 0 2 (.op 13)]
 obtain ⟨σ2, e2, f2, a2, n2⟩ := mk_new f1.tidy vz
 have f02 : Fr Nowhere σ σ2 := f1.trans f2 (fun _ _ h => h)
 have t2 := f2.at_ a1 f1.tidy (fun h => h)
 obtain ⟨σ3, g3, f3⟩ := hMa σ2 f02.tidy (hPf _ _ ht f02 hP)
 have f03 : Fr Nowhere σ σ3 := f02.trans f3 (fun _ _ h => h)
 have t3 := f3.at_ t2 f02.tidy (fun h => h)
 have r3 := f3.at_ a2 f02.tidy (fun h => h)
 have le03 := f03.le
 have le23 := f3.le
 have fw : Fr Nowhere σ3 ⟨σ3.next + 8, σ3.bl⟩ := (go_start (E := E) (n := 8) (S := Nowhere) f3.tidy).fr
 have x3 := hx.fr f03 ht
 obtain ⟨wb, rb, v, σ4, g4, w4, f4, nr, nw, nv⟩ := hW ⟨σ3.next + 8, σ3.bl⟩ x O (x3.fr fw f3.tidy) fw.tidy hc (by omega)
 have le4 : σ3.next + 8 ≤ σ4.next := f4.le
 have nr : σ3.next + 8 ≤ rb := nr
 have nw : σ3.next + 8 ≤ wb := nw
 have nv : ∀ c, Names v c → σ3.next + 8 ≤ c := nv
 have bx : aopA (.box 105 (.tmp 43)) [(43, .agg (dec wb m x1 x2 tb 2 (σ3.next + 4)))] (σ3.next + 6) = some (.ptr (σ3.next + 6) 0, .cells (dec wb m x1 x2 tb 2 (σ3.next + 4))) := by
  have ho : allOne (dec wb m x1 x2 tb 2 (σ3.next + 4)) = true := by unfold dec; simp only [allOne_cons, allOne_nil, one_ptr, one_str, one_sl, o1, o2, Bool.and_true]
  show (if allOne (V.agg (dec wb m x1 x2 tb 2 (σ3.next + 4))).cells = true then some (V.ptr (σ3.next + 6) 0, Blk.cells (V.agg (dec wb m x1 x2 tb 2 (σ3.next + 4))).cells) else none) = _
  rw [cells_agg, if_pos ho]
 have xo : x.one = true := Src.one hx
 have go : Goes E D σ3 8 0 Nowhere G32_0 H32_0 ⟨[(1, .int .i64 (Int.ofNat 0)), (2, x), (3, .ptr σ.next 0), (6, .ptr σ1.next 0)], σ3.next + 8, [σ3.bl], [], 0, []⟩ _ ⟨σ4.next, (σ3.next + 6, .cells (dec wb m x1 x2 tb 2 (σ3.next + 4))) :: (σ3.next + 4, .cells [.int .i64 (Int.ofNat 0)]) :: σ4.bl⟩ :=
  go_p x rfl (mov_of rfl (live_of xo)) <|
  go_k (.ptr wb 0) (go_start f3.tidy) rfl (by decide) (S' := Nowhere) f4 (fun _ _ h => h.elim) (fun _ h _ _ => h) (call_of (vs := [x]) rfl (by
   show (x.live && true) = true
   rw [live_of xo]; rfl) g4) fun _ _ _ r1 =>
  go_l (.agg [.str m, x1, x2, .sl tb 0 2 (.op 13)]) r1 rfl (old_ldn (b := σ.next) (off := 0) (m := 4) rfl t3 rfl rfl f3.tidy (fun h => h) (by
   show beqs [V.str m, x1, x2, V.sl tb 0 2 (.op 13)] [V.str m, x1, x2, V.sl tb 0 2 (.op 13)] = true
   simp only [beqs, b1, b2, beq_self (.str m) rfl, beq_self (.sl tb 0 2 (.op 13)) rfl, Bool.and_true])) fun _ r2 =>
  go_p (.agg [.int .i64 (Int.ofNat 0)]) rfl rfl <|
  go_a (.ptr (σ3.next + 4) 0) (.cells [.int .i64 (Int.ofNat 0)]) 16 r2 rfl (by decide) (by decide) rfl fun _ r3 =>
  go_p (.agg (dec wb m x1 x2 tb 2 (σ3.next + 4))) rfl rfl <|
  go_a (.ptr (σ3.next + 6) 0) (.cells (dec wb m x1 x2 tb 2 (σ3.next + 4))) 80 r3 rfl (by decide) (by decide) bx fun _ r4 =>
  go_p (.ptr (σ3.next + 6) 0) rfl rfl <|
  go_nil r4
 obtain ⟨d0, d2⟩ := go_draw (ops := G32_0) go
 obtain ⟨env, d1, u1, u3, u6, u8⟩ : ∃ env, drawW E D G32_0 H32_0 [(1, .int .i64 (Int.ofNat 0)), (2, x), (3, .ptr σ.next 0), (6, .ptr σ1.next 0)] σ3 = some (env, ⟨σ4.next, (σ3.next + 6, .cells (dec wb m x1 x2 tb 2 (σ3.next + 4))) :: (σ3.next + 4, .cells [.int .i64 (Int.ofNat 0)]) :: σ4.bl⟩) ∧ Go.Og.look env 1 = some (.int .i64 (Int.ofNat 0)) ∧ Go.Og.look env 3 = some (.ptr σ.next 0) ∧ Go.Og.look env 6 = some (.ptr σ1.next 0) ∧ Go.Og.look env 8 = some (.ptr (σ3.next + 6) 0) := ⟨_, d0, rfl, rfl, rfl, rfl⟩
 clear d0
 obtain ⟨db, hdb⟩ : ∃ db, db = σ3.next + 6 := ⟨_, rfl⟩
 obtain ⟨cb, hcb⟩ : ∃ cb, cb = σ3.next + 4 := ⟨_, rfl⟩
 rw [← hdb, ← hcb] at d1 d2
 rw [← hdb] at u8
 obtain ⟨σ5, h5⟩ : ∃ σ5, σ5 = (⟨σ4.next, (db, .cells (dec wb m x1 x2 tb 2 cb)) :: (cb, .cells [.int .i64 (Int.ofNat 0)]) :: σ4.bl⟩ : H) := ⟨_, rfl⟩
 rw [← h5] at d1 d2
 have ad : Atc σ5 db (dec wb m x1 x2 tb 2 cb) := by
  rw [h5]
  show lookF ((db, _) :: _) db = _
  rw [lookF_cons, if_pos rfl]
 have ac : Atc σ5 cb [.int .i64 (Int.ofNat 0)] := by
  rw [h5]
  show lookF ((db, _) :: (cb, _) :: σ4.bl) cb = _
  rw [lookF_cons, if_neg (by simp only []; omega), lookF_cons, if_pos rfl]
 have f45 : Fr (fun k => k = db ∨ k = cb) σ4 σ5 := by
  refine ⟨d2.tidy, by rw [h5]; exact Nat.le_refl _, fun b hb hn => ?_⟩
  rw [h5]
  show lookF ((db, _) :: (cb, _) :: σ4.bl) b = _
  rw [lookF_cons, if_neg (fun e => hn (.inl e.symm)), lookF_cons, if_neg (fun e => hn (.inr e.symm))]
 have w5 := w4.fr f45 f4.tidy (by omega) (by omega) (fun c hc => by have := nv c hc; omega)
 have hD : De σ5 db wb rb cb tb 2 m x1 x2 (Int.ofNat 0) := ⟨ad, ac, o1, o2, b1, b2, by omega, by omega, by omega, by omega, by omega⟩
 have f05 : Fr Nowhere σ σ5 := f03.trans d2 (fun _ _ h => h)
 have lT := hT.lt ht
 have lf := hfb.lt ht
 obtain ⟨lb, σ6, g6, w6, f6⟩ := hS σ5 db wb rb cb t0 t1 fb 0 n0 v O _ d2.tidy w5 hD (hPf _ _ ht f05 hP) (hPs σ ht hP rb cb (by omega) (by omega)) q1 q0 q6 q7 (f05.at_ hT ht (fun h => h)) (fun hc => by have := nv _ hc; omega) (by omega) (by omega) (by omega)
  (by omega) hr h0 h128 hb hend (f05.at_ hfb ht (fun h => h)) (by omega) (by omega)
 have ad6 := f6.at_ ad d2.tidy (by omega)
 obtain ⟨σ7, g7, f7⟩ := hE σ6 wb rb _ v O 4 _ w6 f6.tidy (fun e => by cases e)
 rw [if_neg (by decide)] at g7
 have r5 := d2.at_ r3 f3.tidy (fun h => h)
 have r7 := f7.at_ (f6.at_ r5 d2.tidy (by omega)) f6.tidy (fun h => h)
 obtain ⟨σ8, e8, f8, a8⟩ := mk_set f7.tidy r7 vz
 refine ⟨σ8, ?_, ((f05.trans f6 (fun b hb e => by omega)).trans f7 (fun _ _ h => h)).trans f8 (fun b hb e => by omega)⟩
 have sx : ∀ κ : Nat → Ans, slenK x κ = κ O.length := fun κ => by rw [hx.slen, nI_length]
 have s8 : ∀ κ : H → Ans, stK 6 σ1.next 0 (.agg vz) σ7 κ = κ σ8 := fun κ => by
  rw [stK_at r7 rfl]
  show κ (setF σ7 σ1.next (.cells vz)) = _
  rw [e8]
 have l8 : ∀ κ : List V → Ans, ldnK E σ8 σ1.next 0 6 κ = κ vz := fun κ => (ldnK_is a8).trans rfl
 have gd : ∀ κ : Env → H → Ans, gdrawK (drawW E D G32_0 H32_0 [(1, .int .i64 (Int.ofNat 0)), (2, x), (3, .ptr σ.next 0), (6, .ptr σ1.next 0)] σ3) κ = κ env σ5 := fun κ => by rw [d1]; rfl
 have l1 : ∀ κ : V → Ans, getL env 1 κ = κ (.int .i64 (Int.ofNat 0)) := fun κ => getL_of u1 rfl
 have l3 : ∀ κ : V → Ans, getL env 3 κ = κ (.ptr σ.next 0) := fun κ => getL_of u3 rfl
 have l6 : ∀ κ : V → Ans, getL env 6 κ = κ (.ptr σ1.next 0) := fun κ => getL_of u6 rfl
 have l9 : ∀ κ : V → Ans, getL env 8 κ = κ (.ptr db 0) := fun κ => getL_of u8 rfl
 have kw : ∀ κ : V → Ans, ldK E σ6 db 0 κ = κ (.ptr wb 0) := fun κ => (ldK_is ad6).trans rfl
 have dl : decide (70000 < O.length) = false := decide_eq_false (by omega)
 have dz : decide (O.length = 0) = false := decide_eq_false (by omega)
 unfold vz at e2
 unfold vq at g6
 show T32_0 E D (drawW E D) m x1 x2 (.sl tb 0 2 (.op 13)) (Int.ofNat 0) x σ = _
 unfold T32_0
 unfold vz at s8
 simp -implicitDefEqProofs only [↓nthK_zero, ↓nthK_succ, ↓subK_2, ↓subK_4, ↓subK_5, ↓subK_6, ↓subK_13, ↓subK_con, ↓rtInt_int, ↓rtBool_bool, ↓rtStr_str, ↓rtPtr_ptr, ↓rtAgg_agg, ↓rtTup_tup, ↓rtCons_cons, ↓rtNil_nil, ↓rtOne_nils, ↓rtOne_pt, ↓rtOne_sl, ↓slenK_nils, ↓slenK_sl, ↓callK_some_, ↓condK_ift, ↓condK_iff, ↓chk_if, ↓joinB_, cells_agg, cells_int, cells_ptr, allOne_cons, allOne_nil, one_int, one_bool, one_str, one_nils, one_sl, one_ptr, Bool.and_true, Nat.add_eq, Nat.zero_add, Bool.not_true, Bool.not_false, eqF_nat, ltF_nat, leF_nat, Nat.reduceEqDiff, Nat.reduceLT, Nat.reduceLeDiff, decide_false, decide_true, Bool.false_or, Bool.true_or, Bool.or_false, Bool.or_true, Bool.false_and, Bool.true_and, Bool.and_false, o1, o2, ↓e1, ↓e2, ↓ldK_is t2, ↓ldnK_is t2, ↓sx, dl, dz, ↓g3, ↓gd, ↓l1, ↓l3, ↓l6, ↓l9, ↓g6, ↓kw, ↓g7, ↓s8]
 exact l8 _
end
end
end Go.Proofs.YtgjjnbddbbhloaaGreatDoor
set_option linter.all false
set_option maxRecDepth 100000
set_option maxHeartbeats 0
namespace Go.Proofs.YtgjjnbddbbhloaaGreatDoor
open Go Go.Og
noncomputable section
def t0 : BS := ⟨79, 4755262650361405670094815234103870469654946843813472808568420579859915973184956481920989803364272080594043728514490500893829530383246735795238271962579292060936406028983171296324242307817549⟩
def eT : Few := ⟨100, [.str t0],
 [],
 .tup [.agg [.str ⟨1, 77⟩, .sl 209 0 1 (.op 1), .sl 317 0 1 (.op 1), .sl 256 0 2 (.op 13)], .bool true], 330,
 [(209, .cells [.str ⟨1, 65⟩]),
 (226, .cells [.int .i64 (Int.ofNat 0), .int .i64 (Int.ofNat 16)]),
 (256, .cells [.int .i64 (Int.ofNat 7), .sl 226 0 1 (.ex 1), .bool false, .bool false, .bool false, .bool false, .int .i64 (Int.ofNat 0), .int .i64 (Int.ofNat 0), .nils, .sl 259 0 1 (.op 11), .int .i64 (Int.ofNat 0), .bool true, .int .i64 (Int.ofNat 0), .int .i64 (Int.ofNat 1), .sl 257 0 1 (.ex 1), .bool false, .bool false, .bool false, .bool false, .int .i64 (Int.ofNat 0), .int .i64 (Int.ofNat 0), .nils, .nils, .int .i64 (Int.ofNat 0), .bool false, .int .i64 (Int.ofNat 0)]),
 (257, .cells [.int .i64 (Int.ofNat 2), .int .i64 (Int.ofNat 0)]),
 (259, .cells [.str ⟨1, 97⟩, .int .i64 (Int.ofNat 1), .bool false, .bool false, .int .i64 (Int.ofNat 0), .int .i64 (Int.ofNat 0), .nils, .nils, .int .i64 (Int.ofNat 0), .nils, .int .i64 (Int.ofNat 0)]),
 (317, .cells [.int .i64 (Int.ofNat 0)])]⟩
theorem eT_right : eT.right 2 ((DT [] 100000 60) 13) = true := by kernel_rfl
theorem eT_shape : eT.shape = true := by kernel_rfl
def eAw : Few := ⟨100, [],
 [],
 .bool true, 768,
 []⟩
theorem eAw_right : eAw.right 2 ((DT [] 100000 60) 31) = true := by kernel_rfl
theorem eAw_shape : eAw.shape = true := by kernel_rfl
def eSv : Few := ⟨100, [.agg [.int .i64 (Int.ofNat 0), .int .i64 (Int.ofNat 0), .nils, .nils, .int .i64 (Int.ofNat 0), .nils], .agg [.int .i64 (Int.ofNat 0), .int .i64 (Int.ofNat 0), .nils, .nils, .int .i64 (Int.ofNat 0), .nils]],
 [],
 .bool true, 102,
 []⟩
theorem eSv_right : eSv.right 2 ((DT [] 100000 60) 33) = true := by kernel_rfl
theorem eSv_shape : eSv.shape = true := by kernel_rfl
def eMade : Few := ⟨330, [.agg [.str ⟨1, 77⟩, .sl 209 0 1 (.op 1), .sl 317 0 1 (.op 1), .sl 256 0 2 (.op 13)]],
 [(209, .cells [.str ⟨1, 65⟩]),
 (226, .cells [.int .i64 (Int.ofNat 0), .int .i64 (Int.ofNat 16)]),
 (256, .cells [.int .i64 (Int.ofNat 7), .sl 226 0 1 (.ex 1), .bool false, .bool false, .bool false, .bool false, .int .i64 (Int.ofNat 0), .int .i64 (Int.ofNat 0), .nils, .sl 259 0 1 (.op 11), .int .i64 (Int.ofNat 0), .bool true, .int .i64 (Int.ofNat 0), .int .i64 (Int.ofNat 1), .sl 257 0 1 (.ex 1), .bool false, .bool false, .bool false, .bool false, .int .i64 (Int.ofNat 0), .int .i64 (Int.ofNat 0), .nils, .nils, .int .i64 (Int.ofNat 0), .bool false, .int .i64 (Int.ofNat 0)]),
 (257, .cells [.int .i64 (Int.ofNat 2), .int .i64 (Int.ofNat 0)]),
 (259, .cells [.str ⟨1, 97⟩, .int .i64 (Int.ofNat 1), .bool false, .bool false, .int .i64 (Int.ofNat 0), .int .i64 (Int.ofNat 0), .nils, .nils, .int .i64 (Int.ofNat 0), .nils, .int .i64 (Int.ofNat 0)]),
 (317, .cells [.int .i64 (Int.ofNat 0)])],
 .bool true, 336,
 [(209, .cells [.str ⟨1, 65⟩]),
 (226, .cells [.int .i64 (Int.ofNat 0), .int .i64 (Int.ofNat 16)]),
 (256, .cells [.int .i64 (Int.ofNat 7), .sl 226 0 1 (.ex 1), .bool false, .bool false, .bool false, .bool false, .int .i64 (Int.ofNat 0), .int .i64 (Int.ofNat 0), .nils, .sl 259 0 1 (.op 11), .int .i64 (Int.ofNat 0), .bool true, .int .i64 (Int.ofNat 0), .int .i64 (Int.ofNat 1), .sl 257 0 1 (.ex 1), .bool false, .bool false, .bool false, .bool false, .int .i64 (Int.ofNat 0), .int .i64 (Int.ofNat 0), .nils, .nils, .int .i64 (Int.ofNat 0), .bool false, .int .i64 (Int.ofNat 0)]),
 (257, .cells [.int .i64 (Int.ofNat 2), .int .i64 (Int.ofNat 0)]),
 (259, .cells [.str ⟨1, 97⟩, .int .i64 (Int.ofNat 1), .bool false, .bool false, .int .i64 (Int.ofNat 0), .int .i64 (Int.ofNat 0), .nils, .nils, .int .i64 (Int.ofNat 0), .nils, .int .i64 (Int.ofNat 0)]),
 (317, .cells [.int .i64 (Int.ofNat 0)])]⟩
theorem eMade_right : eMade.right 2 ((DT [] 100000 60) 49) = true := by kernel_rfl
theorem eMade_shape : eMade.shape = true := by kernel_rfl
def eOF : Few := ⟨330, [.agg [.str ⟨1, 77⟩, .sl 209 0 1 (.op 1), .sl 317 0 1 (.op 1), .sl 256 0 2 (.op 13)], .int .i64 (Int.ofNat 0)],
 [(209, .cells [.str ⟨1, 65⟩]),
 (226, .cells [.int .i64 (Int.ofNat 0), .int .i64 (Int.ofNat 16)]),
 (256, .cells [.int .i64 (Int.ofNat 7), .sl 226 0 1 (.ex 1), .bool false, .bool false, .bool false, .bool false, .int .i64 (Int.ofNat 0), .int .i64 (Int.ofNat 0), .nils, .sl 259 0 1 (.op 11), .int .i64 (Int.ofNat 0), .bool true, .int .i64 (Int.ofNat 0), .int .i64 (Int.ofNat 1), .sl 257 0 1 (.ex 1), .bool false, .bool false, .bool false, .bool false, .int .i64 (Int.ofNat 0), .int .i64 (Int.ofNat 0), .nils, .nils, .int .i64 (Int.ofNat 0), .bool false, .int .i64 (Int.ofNat 0)]),
 (257, .cells [.int .i64 (Int.ofNat 2), .int .i64 (Int.ofNat 0)]),
 (259, .cells [.str ⟨1, 97⟩, .int .i64 (Int.ofNat 1), .bool false, .bool false, .int .i64 (Int.ofNat 0), .int .i64 (Int.ofNat 0), .nils, .nils, .int .i64 (Int.ofNat 0), .nils, .int .i64 (Int.ofNat 0)]),
 (317, .cells [.int .i64 (Int.ofNat 0)])],
 .sl 334 0 1 (.op 1), 335,
 [(209, .cells [.str ⟨1, 65⟩]),
 (226, .cells [.int .i64 (Int.ofNat 0), .int .i64 (Int.ofNat 16)]),
 (256, .cells [.int .i64 (Int.ofNat 7), .sl 226 0 1 (.ex 1), .bool false, .bool false, .bool false, .bool false, .int .i64 (Int.ofNat 0), .int .i64 (Int.ofNat 0), .nils, .sl 259 0 1 (.op 11), .int .i64 (Int.ofNat 0), .bool true, .int .i64 (Int.ofNat 0), .int .i64 (Int.ofNat 1), .sl 257 0 1 (.ex 1), .bool false, .bool false, .bool false, .bool false, .int .i64 (Int.ofNat 0), .int .i64 (Int.ofNat 0), .nils, .nils, .int .i64 (Int.ofNat 0), .bool false, .int .i64 (Int.ofNat 0)]),
 (257, .cells [.int .i64 (Int.ofNat 2), .int .i64 (Int.ofNat 0)]),
 (259, .cells [.str ⟨1, 97⟩, .int .i64 (Int.ofNat 1), .bool false, .bool false, .int .i64 (Int.ofNat 0), .int .i64 (Int.ofNat 0), .nils, .nils, .int .i64 (Int.ofNat 0), .nils, .int .i64 (Int.ofNat 0)]),
 (317, .cells [.int .i64 (Int.ofNat 0)]),
 (334, .cells [.int .i64 (Int.ofNat 0)])]⟩
theorem eOF_right : eOF.right 2 ((DT [] 100000 60) 154) = true := by kernel_rfl
theorem eOF_shape : eOF.shape = true := by kernel_rfl
def eOS : Few := ⟨330, [.agg [.str ⟨1, 77⟩, .sl 209 0 1 (.op 1), .sl 317 0 1 (.op 1), .sl 256 0 2 (.op 13)], .int .i64 (Int.ofNat 0)],
 [(209, .cells [.str ⟨1, 65⟩]),
 (226, .cells [.int .i64 (Int.ofNat 0), .int .i64 (Int.ofNat 16)]),
 (256, .cells [.int .i64 (Int.ofNat 7), .sl 226 0 1 (.ex 1), .bool false, .bool false, .bool false, .bool false, .int .i64 (Int.ofNat 0), .int .i64 (Int.ofNat 0), .nils, .sl 259 0 1 (.op 11), .int .i64 (Int.ofNat 0), .bool true, .int .i64 (Int.ofNat 0), .int .i64 (Int.ofNat 1), .sl 257 0 1 (.ex 1), .bool false, .bool false, .bool false, .bool false, .int .i64 (Int.ofNat 0), .int .i64 (Int.ofNat 0), .nils, .nils, .int .i64 (Int.ofNat 0), .bool false, .int .i64 (Int.ofNat 0)]),
 (257, .cells [.int .i64 (Int.ofNat 2), .int .i64 (Int.ofNat 0)]),
 (259, .cells [.str ⟨1, 97⟩, .int .i64 (Int.ofNat 1), .bool false, .bool false, .int .i64 (Int.ofNat 0), .int .i64 (Int.ofNat 0), .nils, .nils, .int .i64 (Int.ofNat 0), .nils, .int .i64 (Int.ofNat 0)]),
 (317, .cells [.int .i64 (Int.ofNat 0)])],
 .sl 336 0 1 (.op 1), 337,
 [(209, .cells [.str ⟨1, 65⟩]),
 (226, .cells [.int .i64 (Int.ofNat 0), .int .i64 (Int.ofNat 16)]),
 (256, .cells [.int .i64 (Int.ofNat 7), .sl 226 0 1 (.ex 1), .bool false, .bool false, .bool false, .bool false, .int .i64 (Int.ofNat 0), .int .i64 (Int.ofNat 0), .nils, .sl 259 0 1 (.op 11), .int .i64 (Int.ofNat 0), .bool true, .int .i64 (Int.ofNat 0), .int .i64 (Int.ofNat 1), .sl 257 0 1 (.ex 1), .bool false, .bool false, .bool false, .bool false, .int .i64 (Int.ofNat 0), .int .i64 (Int.ofNat 0), .nils, .nils, .int .i64 (Int.ofNat 0), .bool false, .int .i64 (Int.ofNat 0)]),
 (257, .cells [.int .i64 (Int.ofNat 2), .int .i64 (Int.ofNat 0)]),
 (259, .cells [.str ⟨1, 97⟩, .int .i64 (Int.ofNat 1), .bool false, .bool false, .int .i64 (Int.ofNat 0), .int .i64 (Int.ofNat 0), .nils, .nils, .int .i64 (Int.ofNat 0), .nils, .int .i64 (Int.ofNat 0)]),
 (317, .cells [.int .i64 (Int.ofNat 0)]),
 (334, .cells [.int .i64 (Int.ofNat 0)]),
 (336, .cells [.sl 334 0 1 (.ex 1)])]⟩
theorem eOS_right : eOS.right 2 ((DT [] 100000 60) 155) = true := by kernel_rfl
theorem eOS_shape : eOS.shape = true := by kernel_rfl
end
end Go.Proofs.YtgjjnbddbbhloaaGreatDoor
set_option linter.all false
set_option maxRecDepth 100000
set_option maxHeartbeats 0
namespace Go.Proofs.YtgjjnbddbbhloaaGreatDoor
open Go Go.Og
noncomputable section
def kn : List (Nat × List Few) := [(13, [eT]), (33, [eSv]), (31, [eAw]), (49, [eMade]), (154, [eOF]), (155, [eOS])]
def TW (E : List (Nat × Blk)) (d : Nat) : Den := Nat.rec (fun _ _ _ => none) (fun _ ih f => match lookF kn f with
 | some l => locF l (BD E 200000 ih f)
 | none => BD E 200000 ih f) d
theorem kn_right : ∀ p ∈ kn, ∀ e ∈ p.2, e.right 2 (DT [] 100000 60 p.1) = true := by
 unfold kn
 simp only [List.forall_mem_cons, List.not_mem_nil, false_implies, implies_true, and_true]
 exact ⟨eT_right, eSv_right, eAw_right, eMade_right, eOF_right, eOS_right⟩
theorem TW_ok (E : List (Nat × Blk)) : ∀ (d : Nat) (f : FuncId), SoundFn Tryz.prog E glob f (TW E d f) := by
 intro d
 induction d with
 | zero => intro f C _ _ R σ w args xs v σ' h; cases h
 | succ d ih =>
  intro f
  show SoundFn Tryz.prog E glob f (match lookF kn f with
   | some l => locF l (BD E 200000 (TW E d) f)
   | none => BD E 200000 (TW E d) f)
  split
  ·rename_i l hl
   rw [lookF_eq] at hl
   exact locF_ok (BD_ok E 200000 (TW E d) ih f) (DT_ok [] 100000 60 f) globLt (kn_right _ (look_mem hl))
  ·exact BD_ok E 200000 (TW E d) ih f
theorem DE20 (E : List (Nat × Blk)) (d : Nat) : TW E (d + 1) 20 = F20 E (TW E d) (drawW E (TW E d)) 200000 := by kernel_rfl
theorem DE21 (E : List (Nat × Blk)) (d : Nat) : TW E (d + 1) 21 = F21 E (TW E d) (drawW E (TW E d)) 200000 := by kernel_rfl
theorem DE23 (E : List (Nat × Blk)) (d : Nat) : TW E (d + 1) 23 = F23 E (TW E d) (drawW E (TW E d)) 200000 := by kernel_rfl
theorem DE32 (E : List (Nat × Blk)) (d : Nat) : TW E (d + 1) 32 = F32 E (TW E d) (drawW E (TW E d)) 200000 := by kernel_rfl
theorem DE41 (E : List (Nat × Blk)) (d : Nat) : TW E (d + 1) 41 = F41 E (TW E d) (drawW E (TW E d)) 200000 := by kernel_rfl
theorem DE42 (E : List (Nat × Blk)) (d : Nat) : TW E (d + 1) 42 = F42 E (TW E d) (drawW E (TW E d)) 200000 := by kernel_rfl
theorem DE43 (E : List (Nat × Blk)) (d : Nat) : TW E (d + 1) 43 = F43 E (TW E d) (drawW E (TW E d)) 200000 := by kernel_rfl
theorem DE44 (E : List (Nat × Blk)) (d : Nat) : TW E (d + 1) 44 = F44 E (TW E d) (drawW E (TW E d)) 200000 := by kernel_rfl
theorem DE45 (E : List (Nat × Blk)) (d : Nat) : TW E (d + 1) 45 = F45 E (TW E d) (drawW E (TW E d)) 200000 := by kernel_rfl
theorem DE50 (E : List (Nat × Blk)) (d : Nat) : TW E (d + 1) 50 = F50 E (TW E d) (drawW E (TW E d)) 200000 := by kernel_rfl
theorem DE51 (E : List (Nat × Blk)) (d : Nat) : TW E (d + 1) 51 = F51 E (TW E d) (drawW E (TW E d)) 200000 := by kernel_rfl
theorem DE52 (E : List (Nat × Blk)) (d : Nat) : TW E (d + 1) 52 = F52 E (TW E d) (drawW E (TW E d)) 200000 := by kernel_rfl
theorem DE87 (E : List (Nat × Blk)) (d : Nat) : TW E (d + 1) 87 = F87 E (TW E d) (drawW E (TW E d)) 200000 := by kernel_rfl
theorem DE99 (E : List (Nat × Blk)) (d : Nat) : TW E (d + 1) 99 = F99 E (TW E d) (drawW E (TW E d)) 200000 := by kernel_rfl
theorem DE100 (E : List (Nat × Blk)) (d : Nat) : TW E (d + 1) 100 = F100 E (TW E d) (drawW E (TW E d)) 200000 := by kernel_rfl
theorem DE101 (E : List (Nat × Blk)) (d : Nat) : TW E (d + 1) 101 = F101 E (TW E d) (drawW E (TW E d)) 200000 := by kernel_rfl
theorem DE102 (E : List (Nat × Blk)) (d : Nat) : TW E (d + 1) 102 = F102 E (TW E d) (drawW E (TW E d)) 200000 := by kernel_rfl
theorem DE103 (E : List (Nat × Blk)) (d : Nat) : TW E (d + 1) 103 = F103 E (TW E d) (drawW E (TW E d)) 200000 := by kernel_rfl
theorem DE106 (E : List (Nat × Blk)) (d : Nat) : TW E (d + 1) 106 = F106 E (TW E d) (drawW E (TW E d)) 200000 := by kernel_rfl
theorem DE109 (E : List (Nat × Blk)) (d : Nat) : TW E (d + 1) 109 = F109 E (TW E d) (drawW E (TW E d)) 200000 := by kernel_rfl
theorem DE113 (E : List (Nat × Blk)) (d : Nat) : TW E (d + 1) 113 = F113 E (TW E d) (drawW E (TW E d)) 200000 := by kernel_rfl
theorem DE114 (E : List (Nat × Blk)) (d : Nat) : TW E (d + 1) 114 = F114 E (TW E d) (drawW E (TW E d)) 200000 := by kernel_rfl
theorem DE115 (E : List (Nat × Blk)) (d : Nat) : TW E (d + 1) 115 = F115 E (TW E d) (drawW E (TW E d)) 200000 := by kernel_rfl
theorem DE116 (E : List (Nat × Blk)) (d : Nat) : TW E (d + 1) 116 = F116 E (TW E d) (drawW E (TW E d)) 200000 := by kernel_rfl
theorem DE163 (E : List (Nat × Blk)) (d : Nat) : TW E (d + 1) 163 = F163 E (TW E d) (drawW E (TW E d)) 200000 := by kernel_rfl
theorem DE181 (E : List (Nat × Blk)) (d : Nat) : TW E (d + 1) 181 = F181 E (TW E d) (drawW E (TW E d)) 200000 := by kernel_rfl
theorem DE182 (E : List (Nat × Blk)) (d : Nat) : TW E (d + 1) 182 = F182 E (TW E d) (drawW E (TW E d)) 200000 := by kernel_rfl
theorem DE183 (E : List (Nat × Blk)) (d : Nat) : TW E (d + 1) 183 = F183 E (TW E d) (drawW E (TW E d)) 200000 := by kernel_rfl
theorem DE184 (E : List (Nat × Blk)) (d : Nat) : TW E (d + 1) 184 = F184 E (TW E d) (drawW E (TW E d)) 200000 := by kernel_rfl
theorem DE189 (E : List (Nat × Blk)) (d : Nat) : TW E (d + 1) 189 = F189 E (TW E d) (drawW E (TW E d)) 200000 := by kernel_rfl
theorem DE190 (E : List (Nat × Blk)) (d : Nat) : TW E (d + 1) 190 = F190 E (TW E d) (drawW E (TW E d)) 200000 := by kernel_rfl
theorem DE191 (E : List (Nat × Blk)) (d : Nat) : TW E (d + 1) 191 = F191 E (TW E d) (drawW E (TW E d)) 200000 := by kernel_rfl
theorem DE197 (E : List (Nat × Blk)) (d : Nat) : TW E (d + 1) 197 = F197 E (TW E d) (drawW E (TW E d)) 200000 := by kernel_rfl
theorem DE199 (E : List (Nat × Blk)) (d : Nat) : TW E (d + 1) 199 = F199 E (TW E d) (drawW E (TW E d)) 200000 := by kernel_rfl
theorem DE200 (E : List (Nat × Blk)) (d : Nat) : TW E (d + 1) 200 = F200 E (TW E d) (drawW E (TW E d)) 200000 := by kernel_rfl
theorem DE201 (E : List (Nat × Blk)) (d : Nat) : TW E (d + 1) 201 = F201 E (TW E d) (drawW E (TW E d)) 200000 := by kernel_rfl
theorem DE202 (E : List (Nat × Blk)) (d : Nat) : TW E (d + 1) 202 = F202 E (TW E d) (drawW E (TW E d)) 200000 := by kernel_rfl
theorem DE203 (E : List (Nat × Blk)) (d : Nat) : TW E (d + 1) 203 = F203 E (TW E d) (drawW E (TW E d)) 200000 := by kernel_rfl
theorem DE204 (E : List (Nat × Blk)) (d : Nat) : TW E (d + 1) 204 = F204 E (TW E d) (drawW E (TW E d)) 200000 := by kernel_rfl
theorem DE260 (E : List (Nat × Blk)) (d : Nat) : TW E (d + 1) 260 = F260 E (TW E d) (drawW E (TW E d)) 200000 := by kernel_rfl
theorem DE261 (E : List (Nat × Blk)) (d : Nat) : TW E (d + 1) 261 = F261 E (TW E d) (drawW E (TW E d)) 200000 := by kernel_rfl
theorem DE262 (E : List (Nat × Blk)) (d : Nat) : TW E (d + 1) 262 = F262 E (TW E d) (drawW E (TW E d)) 200000 := by kernel_rfl
theorem DE268 (E : List (Nat × Blk)) (d : Nat) : TW E (d + 1) 268 = F268 E (TW E d) (drawW E (TW E d)) 200000 := by kernel_rfl
theorem DE270 (E : List (Nat × Blk)) (d : Nat) : TW E (d + 1) 270 = F270 E (TW E d) (drawW E (TW E d)) 200000 := by kernel_rfl
theorem DE272 (E : List (Nat × Blk)) (d : Nat) : TW E (d + 1) 272 = F272 E (TW E d) (drawW E (TW E d)) 200000 := by kernel_rfl
theorem DE273 (E : List (Nat × Blk)) (d : Nat) : TW E (d + 1) 273 = F273 E (TW E d) (drawW E (TW E d)) 200000 := by kernel_rfl
theorem DE297 (E : List (Nat × Blk)) (d : Nat) : TW E (d + 1) 297 = F297 E (TW E d) (drawW E (TW E d)) 200000 := by kernel_rfl
theorem DE13 (E : List (Nat × Blk)) (d : Nat) : TW E (d + 1) 13 = locF [eT] (BD E 200000 (TW E d) 13) := by kernel_rfl
theorem DE33 (E : List (Nat × Blk)) (d : Nat) : TW E (d + 1) 33 = locF [eSv] (BD E 200000 (TW E d) 33) := by kernel_rfl
theorem DE31 (E : List (Nat × Blk)) (d : Nat) : TW E (d + 1) 31 = locF [eAw] (BD E 200000 (TW E d) 31) := by kernel_rfl
theorem DE49 (E : List (Nat × Blk)) (d : Nat) : TW E (d + 1) 49 = locF [eMade] (BD E 200000 (TW E d) 49) := by kernel_rfl
theorem DE154 (E : List (Nat × Blk)) (d : Nat) : TW E (d + 1) 154 = locF [eOF] (BD E 200000 (TW E d) 154) := by kernel_rfl
theorem DE155 (E : List (Nat × Blk)) (d : Nat) : TW E (d + 1) 155 = locF [eOS] (BD E 200000 (TW E d) 155) := by kernel_rfl
end
end Go.Proofs.YtgjjnbddbbhloaaGreatDoor
set_option linter.all false
set_option maxRecDepth 100000
namespace Go.Proofs.YtgjjnbddbbhloaaGreatDoor
open Go Go.Og
noncomputable section
theorem hit1 {e : Few} {F : List V → H → Ans} {args : List V} {σ : H} {ρ : Nat → Nat} (hm : e.Fits ρ args σ) : ∃ ρ', e.Fits ρ' args σ ∧ locF [e] F args σ = some (e.ans ρ' σ) := by
 obtain ⟨e', ρ', he, hf, hr⟩ := locF_hit (F := F) (l := [e]) (List.mem_singleton.2 rfl) hm
 have := List.mem_singleton.1 he
 subst this
 exact ⟨ρ', hf, hr⟩
theorem Has.nil {ρ : Nat → Nat} {σ : H} : Has [] ρ σ := fun id b h => by cases h
theorem Inj.nil {ρ : Nat → Nat} : Inj [] ρ := fun id id' h => by cases h
variable {E : List (Nat × Blk)}
theorem xBit (d : Nat) : SpBit (TW E (d + 1) 41) := by rw [DE41]; exact r01bit_F
theorem xBits (d : Nat) : SpBits (TW E (d + 2) 20) := by rw [DE20]; exact bits_F (xBit d) (by decide)
theorem xB32 (d : Nat) : SpBits32 (TW E (d + 1) 163) := by rw [DE163]; exact bits32_F (by decide)
theorem xOcts (d : Nat) : SpOcts E (TW E (d + 2) 87) := by rw [DE87]; exact octs_F (xB32 d) (by decide)
theorem xOct1 (d : Nat) : SpOct1 E (TW E (d + 3) 44) := by rw [DE44]; exact oct1_F (xOcts d)
theorem xCuts (d : Nat) : SpCuts (TW E (d + 1) 42) := by rw [DE42]; exact cuts_F (by decide)
theorem xDet (d : Nat) : SpDet (TW E (d + 3) 43) := by rw [DE43]; exact det_F (xBits d)
theorem xPut (d : Nat) : SpPut E (TW E (d + 4) 21) := by rw [DE21]; exact put_F (xCuts (d + 2)) (xDet d) (xOct1 d) (by decide)
theorem xBytes (d : Nat) : SpBytes 90000 (TW E (d + 1) 45) := by rw [DE45]; exact r01bytes_F (by decide) (by decide)
theorem xPbit (d : Nat) : SpPbit (TW E (d + 1) 273) := by rw [DE273]; exact pbit_F
theorem xPbits (d : Nat) : SpPbits (TW E (d + 2) 204) := by rw [DE204]; exact pbits_F (xPbit d) (by decide)
theorem xLeft (d : Nat) : SpLeft (TW E (d + 1) 203) := by rw [DE203]; exact left_F
theorem xReady (d : Nat) : SpReady (TW E (d + 2) 261) := by rw [DE261]; exact ready_F (xLeft d)
theorem xBd32 (d : Nat) : SpBd 32 (TW E (d + 1) 260) := by rw [DE260]; exact bd32_F
theorem xRbits (d : Nat) : SpRbits (TW E (d + 3) 183) := by rw [DE183]; exact rbits_F (xBd32 (d + 1)) (xReady d) (xPbits d)
theorem xRerr (d : Nat) : SpRerr (TW E (d + 1) 201) := by rw [DE201]; exact rerr_F
theorem xErr (d : Nat) : SpErr (TW E (d + 2) 114) := by rw [DE114]; exact err_F (xRerr d)
theorem xRleft (d : Nat) : SpLeft (TW E (d + 2) 202) := by rw [DE202]; exact rleft_F (xLeft d)
theorem xWleft (d : Nat) : SpWleft (TW E (d + 3) 115) := by rw [DE115]; exact wleft_F (xRleft d)
theorem xBd64 (d : Nat) : SpBd 64 (TW E (d + 1) 182) := by rw [DE182]; exact bd64_F
theorem xWbits (d : Nat) : SpWbits (TW E (d + 4) 103) := by rw [DE103]; exact wbits_F (xBd64 (d + 2)) (xErr (d + 1)) (xWleft d) (xRbits d)
theorem xRocts (d : Nat) : SpRocts (TW E (d + 3) 191) := by rw [DE191]; exact rocts_F (xReady d) (xPbits d) (by decide)
theorem xWocts (d : Nat) : SpWocts (TW E (d + 4) 109) := by rw [DE109]; exact wocts_F (xErr (d + 1)) (xRocts d)
theorem xFail (d : Nat) : SpFail (TW E (d + 3) 181) := by rw [DE181]; exact fail_F (xErr d)
theorem xBack (d : Nat) : SpBack (TW E (d + 3) 262) (TW E (d + 2)) := by rw [DE262]; exact back_F (xErr d)
theorem xTakeq (d : Nat) : SpTakeq (TW E (d + 5) 297) := by rw [DE297]; exact takeq_F (xWbits d)
theorem xTake (d : Nat) : SpTake (TW E (d + 7) 268) := by rw [DE268]; exact take_F (xBack (d + 3)) (xTakeq d)
theorem xPiece (d : Nat) : SpPiece (TW E (d + 5) 190) := by rw [DE190]; exact piece_F (xWocts d)
theorem xEach (d : Nat) : SpEach (TW E (d + 8) 189) := by rw [DE189]; exact each_F (xTake d) (xErr (d + 5)) (xPiece (d + 2)) (by decide)
theorem xOctets (d : Nat) : SpOctets (TW E (d + 9) 106) := by rw [DE106]; exact octets_F (xErr (d + 6)) (xEach d)
theorem xNewB (d : Nat) : SpNewB (TW E (d + 1) 99) := by rw [DE99]; exact newB_F
theorem xNewW (d : Nat) : SpNewW (TW E (d + 2) 50) := by rw [DE50]; exact newW_F (xNewB d)
theorem xRend (d : Nat) : SpRend (TW E (d + 3) 116) := by rw [DE116]; exact rend_F (xRerr (d + 1)) (xLeft (d + 1)) (xPbits d)
theorem xWend (d : Nat) : SpWend (TW E (d + 4) 52) := by rw [DE52]; exact wend_F (xErr (d + 1)) (xWleft d) (xRend d)
theorem xOn (d : Nat) : SpOn (TW E (d + 3) 102) := by rw [DE102]; exact on_F (xErr d)
theorem xFlag (d : Nat) : SpFlag (TW E (d + 5) 184) := by rw [DE184]; exact flag_F (xWbits d)
theorem xBadNo (d : Nat) : SpBadNo (TW E (d + 1) 100) := by rw [DE100]; exact badno_F
theorem xBadYes (d : Nat) : SpBadYes (TW E (d + 4) 100) := by rw [DE100]; exact badyes_F (xFail d)
theorem xMore (d : Nat) : SpMore (TW E (d + 1) 101) := by rw [DE101]; exact more_F
theorem xSlots (d : Nat) : SpSlots (TW E (d + 6) 270) := by rw [DE270]; exact slots_F (xFlag d) (xWbits (d + 1)) (xOn (d + 2)) (xBadNo (d + 4)) (by decide)
theorem xVb (d : Nat) : SpVb (TW E (d + 5) 51) := by rw [DE51]; exact vb_F (xMore (d + 3)) (xBadNo (d + 3)) (xOn (d + 1)) (xWbits d)
theorem xAddq (d : Nat) : SpAddq (TW E (d + 6) 272) := by rw [DE272]; exact addq_F (xVb d)
theorem xOpen (d : Nat) : SpOpen (TW E (d + 10) 197) := by rw [DE197]; exact open_F (xOctets d) (xBadNo (d + 8)) (xBadYes (d + 5)) (xOn (d + 6)) (xNewW (d + 7)) (xAddq (d + 3)) (xWend (d + 5))
theorem xSome (d : Nat) : SpSome (TW E (d + 1) 199) := by rw [DE199]; exact some_F (by decide)
def Pt (τ : Nat → Nat) (σ : H) : Prop := Inj eT.bl1 τ ∧ Has eT.bl1 τ σ
section
variable {τ : Nat → Nat}
theorem pt_f (σ σ' : H) (ht : Tidy σ) (f : Fr Nowhere σ σ') (h : Pt τ σ) : Pt τ σ' := ⟨h.1, h.2.fr f ht fun _ _ h => h⟩
theorem pt_s (σ0 : H) (ht0 : Tidy σ0) (h0 : Pt τ σ0) (rb cb : Nat) (hr : σ0.next ≤ rb) (hc : σ0.next ≤ cb) (σ σ' : H) (ht : Tidy σ) (f : Fr (fun k => k = rb ∨ k = cb) σ σ') (h : Pt τ σ) : Pt τ σ' :=
 ⟨h.1, h.2.fr f ht fun id hd e => by have := h0.2.lt ht0 hd; omega⟩
theorem xOF (d : Nat) : SpOF (Pt τ) ⟨1, 77⟩ (.sl (τ 209) 0 1 (.op 1)) (.sl (τ 317) 0 1 (.op 1)) (τ 256) (TW E (d + 1) 154) := by
 intro σ ht hP
 obtain ⟨ρ, hf, hr⟩ := hit1 (e := eOF) (F := BD E 200000 (TW E d) 154) (fits_of (e := eOF) (ρ := τ) (args := [.agg [.str ⟨1, 77⟩, .sl (τ 209) 0 1 (.op 1), .sl (τ 317) 0 1 (.op 1), .sl (τ 256) 0 2 (.op 13)], .int .i64 (Int.ofNat 0)]) rfl hP.2 hP.1)
 exact ⟨eOF.to ρ σ 334, (eOF.ans ρ σ).2, by rw [DE154, hr]; rfl, Few.fr0 eOF_shape (by kernel_rfl) hf ht⟩
theorem xMade (d : Nat) : SpMade (Pt τ) ⟨1, 77⟩ (.sl (τ 209) 0 1 (.op 1)) (.sl (τ 317) 0 1 (.op 1)) (τ 256) (TW E (d + 1) 49) := by
 intro σ ht hP
 obtain ⟨ρ, hf, hr⟩ := hit1 (e := eMade) (F := BD E 200000 (TW E d) 49) (fits_of (e := eMade) (ρ := τ) (args := [.agg [.str ⟨1, 77⟩, .sl (τ 209) 0 1 (.op 1), .sl (τ 317) 0 1 (.op 1), .sl (τ 256) 0 2 (.op 13)]]) rfl hP.2 hP.1)
 exact ⟨(eMade.ans ρ σ).2, by rw [DE49, hr]; rfl, Few.fr0 eMade_shape (by kernel_rfl) hf ht⟩
theorem xOS (d : Nat) : SpOS (Pt τ) ⟨1, 77⟩ (.sl (τ 209) 0 1 (.op 1)) (.sl (τ 317) 0 1 (.op 1)) (τ 256) (TW E (d + 1) 155) := by
 intro σ ht hP
 obtain ⟨ρ, hf, hr⟩ := hit1 (e := eOS) (F := BD E 200000 (TW E d) 155) (fits_of (e := eOS) (ρ := τ) (args := [.agg [.str ⟨1, 77⟩, .sl (τ 209) 0 1 (.op 1), .sl (τ 317) 0 1 (.op 1), .sl (τ 256) 0 2 (.op 13)], .int .i64 (Int.ofNat 0)]) rfl hP.2 hP.1)
 have hh := Few.has eOS_shape hf ht
 have h1 : σ.next ≤ eOS.to ρ σ 336 := by
  unfold Few.to
  have h0 : eOS.n0 = 330 := rfl
  rw [h0, if_neg (by omega)]; omega
 have h2 : σ.next ≤ eOS.to ρ σ 334 := by
  unfold Few.to
  have h0 : eOS.n0 = 330 := rfl
  rw [h0, if_neg (by omega)]; omega
 exact ⟨eOS.to ρ σ 336, eOS.to ρ σ 334, (eOS.ans ρ σ).2, by rw [DE155, hr]; rfl, hh 336 (.cells [.sl 334 0 1 (.ex 1)]) rfl, hh 334 (.cells [.int .i64 (Int.ofNat 0)]) rfl, Few.fr0 eOS_shape (by kernel_rfl) hf ht, h1, h2⟩
theorem xAdds (d : Nat) : SpAdds (Pt τ) ⟨1, 77⟩ (.sl (τ 209) 0 1 (.op 1)) (.sl (τ 317) 0 1 (.op 1)) (τ 256) (TW E (d + 11) 200) := by
 rw [DE200]; exact addsF (by decide) pt_f (xOS (d + 9)) (xSlots (d + 4)) (xOn (d + 7)) (xMore (d + 9)) (xOpen d)
theorem xFields (d : Nat) : SpFields (Pt τ) ⟨1, 77⟩ (.sl (τ 209) 0 1 (.op 1)) (.sl (τ 317) 0 1 (.op 1)) (τ 256) (TW E (d + 12) 113) := by
 rw [DE113]; exact fields_F pt_f (xMore (d + 10)) (xBadNo (d + 10)) (xFlag (d + 6)) (xOF (d + 10)) (xSome (d + 10)) (xOn (d + 8)) (xAdds d)
theorem xSeq (d : Nat) : SpSeq (Pt τ) ⟨1, 77⟩ (.sl (τ 209) 0 1 (.op 1)) (.sl (τ 317) 0 1 (.op 1)) (τ 256) (TW E (d + 13) 51) := by
 rw [DE51]; exact vseq_F pt_f (xMore (d + 11)) (xBadNo (d + 11)) (xOn (d + 9)) (xFields d)
theorem xDec (d : Nat) : SpDec (Pt τ) ⟨1, 77⟩ (.sl (τ 209) 0 1 (.op 1)) (.sl (τ 317) 0 1 (.op 1)) (τ 256) (TW E (d + 14) 32) := by
 rw [DE32]; exact dec_F pt_f pt_s rfl rfl (beq_self _ rfl) (beq_self _ rfl) (xMade (d + 12)) (xNewW (d + 11)) (xSeq d) (xWend (d + 9))
end
theorem xAw (d : Nat) {σ : H} (ht : Tidy σ) : ∃ σ', TW E (d + 1) 31 [] σ = some (.bool true, σ') ∧ Fr Nowhere σ σ' := by
 obtain ⟨ρ, hf, hr⟩ := hit1 (e := eAw) (F := BD E 200000 (TW E d) 31) (fits_of (e := eAw) (ρ := fun x => x) (args := []) (σ := σ) rfl Has.nil Inj.nil)
 exact ⟨_, by rw [DE31, hr]; rfl, Few.fr0 eAw_shape (by kernel_rfl) hf ht⟩
theorem xTab (d : Nat) {σ : H} (ht : Tidy σ) : ∃ τ σ', TW E (d + 1) 13 [.str t0] σ = some (.tup [.agg [.str ⟨1, 77⟩, .sl (τ 209) 0 1 (.op 1), .sl (τ 317) 0 1 (.op 1), .sl (τ 256) 0 2 (.op 13)], .bool true], σ') ∧ Pt τ σ' ∧ Fr Nowhere σ σ' := by
 obtain ⟨ρ, hf, hr⟩ := hit1 (e := eT) (F := BD E 200000 (TW E d) 13) (fits_of (e := eT) (ρ := fun x => x) (args := [.str t0]) (σ := σ) rfl Has.nil Inj.nil)
 exact ⟨eT.to ρ σ, _, by rw [DE13, hr]; rfl, ⟨Few.to_inj eT_shape hf ht, Few.has eT_shape hf ht⟩, Few.fr0 eT_shape (by kernel_rfl) hf ht⟩
end
end Go.Proofs.YtgjjnbddbbhloaaGreatDoor
set_option linter.all false
set_option maxRecDepth 100000
namespace Go.Proofs.YtgjjnbddbbhloaaGreatDoor
open Go Go.Og
noncomputable section
theorem octR_same {L M : List Nat} : ∀ (n i : Nat), (∀ k, i ≤ k → k < i + 8 * n → bit L k = bit M k) → octR L i n = octR M i n
 | 0, _, _ => rfl
 | n + 1, i, h => by
  rw [octR, octR, octR_same n i (fun k h1 h2 => h k h1 (by omega)), readV_same 8 (i + 8 * n) 0 (fun k h1 h2 => h k (by omega) (by omega))]
theorem octR_pack {L : List Nat} (hb : Bin L) {n i : Nat} (h : i + 8 * n ≤ 8 * packN L.length) : octR (bitsO (pack L)) i n = octR L i n := octR_same n i fun k h1 h2 => pack_bit hb (by omega)
def lawB (O : List Nat) : List Nat := (([] ++ bitsOf 1 1) ++ bitsOf 7 0) ++ bitsOf 1 1 ++ (detBits O.length ++ bitsO O)
theorem lawB_eq {O : List Nat} (h : O.length < 128) : lawB O = ([1, 0, 0, 0, 0, 0, 0, 0, 1] ++ bitsOf 8 O.length) ++ (bitsO O ++ []) := by
 unfold lawB detBits
 rw [if_pos h, List.append_nil, ← List.append_assoc]; rfl
theorem lawB_len {O : List Nat} (h : O.length < 128) : (lawB O).length = 17 + 8 * O.length := by
 rw [lawB_eq h]
 simp only [List.length_append, List.length_cons, List.length_nil, bitsOf_length, bitsO_length]
 omega
theorem lawB_bin {O : List Nat} (h : O.length < 128) : Bin (lawB O) := by
 rw [lawB_eq h]
 intro b hb
 simp only [List.append_nil, List.mem_append] at hb
 rcases hb with (hb | hb) | hb
 ·revert b; decide
 ·exact bitsOf_bin _ _ b hb
 ·exact bitsO_bin _ b hb
structure Read1 (O P : List Nat) : Prop where
 q1 : bit (bitsO P) 0 = 1
 q0 : bit (bitsO P) 1 = 0
 q6 : readV (bitsO P) 2 6 0 = 0
 q7 : bit (bitsO P) 8 = 1
 hi : 17 + 8 * O.length ≤ 8 * P.length
 hr : readV (bitsO P) 9 8 0 = O.length
 ho : octR (bitsO P) 17 O.length = O
 lt : ∀ c ∈ P, c < 256
 few : P.length ≤ 10000
theorem read1 {O : List Nat} (h : O.length < 128) (hc : ∀ c ∈ O, c < 256) : Read1 O (pack (lawB O)) := by
 have hb := lawB_bin h
 have hl := lawB_len h
 have hp : 17 + 8 * O.length ≤ 8 * packN (lawB O).length := by rw [hl]; unfold packN; omega
 have e := lawB_eq h
 have e9 : (lawB O).drop 9 = bitsOf 8 O.length ++ (bitsO O ++ []) := by rw [e]; rfl
 have e2 : (lawB O).drop 2 = [0, 0, 0, 0, 0, 0] ++ (1 :: (bitsOf 8 O.length ++ (bitsO O ++ []))) := by rw [e]; rfl
 refine ⟨?_, ?_, ?_, ?_, by rw [pack_length]; exact hp, ?_, ?_, pack_lt hb, by rw [pack_length, hl]; unfold packN; omega⟩
 ·rw [pack_bit hb (by omega), e]; rfl
 ·rw [pack_bit hb (by omega), e]; rfl
 ·rw [read_pack hb (by omega)]
  exact readV_app [0, 0, 0, 0, 0, 0] _ 2 0 e2
 ·rw [pack_bit hb (by omega), e]; rfl
 ·rw [read_pack hb (by omega)]
  have := readV_app (bitsOf 8 O.length) _ 9 0 e9
  rw [bitsOf_length, valOf_bits] at this
  rw [this, Nat.zero_mul, Nat.zero_add, Nat.mod_eq_of_lt (by omega)]
 ·rw [octR_pack hb (by omega), e]
  have := octR_mid (P := [1, 0, 0, 0, 0, 0, 0, 0, 1] ++ bitsOf 8 O.length) (Q := []) O [] (by rw [List.append_nil]; exact hc)
  rw [List.append_nil] at this
  have e17 : ([1, 0, 0, 0, 0, 0, 0, 0, 1] ++ bitsOf 8 O.length).length = 17 := by simp [bitsOf_length]
  rw [e17] at this
  rw [List.append_nil] at this ⊢; exact this
theorem end_two {O : List Nat} (h : 2 ≤ O.length) : endN O 1 ≠ 0 := by
 unfold endN; rw [if_pos (by omega)]; decide
theorem end_one : ∀ c : Nat, c < 256 → c % 128 ≠ 0 → endN [c] 1 ≠ 0 := by
 have : ∀ c : Fin 256, c.val % 128 ≠ 0 → endN [c.val] 1 ≠ 0 := by decide +kernel
 exact fun c h => this ⟨c, h⟩
section
variable {E : List (Nat × Blk)} {W : DrawFn} {N : Nat}
theorem xW17 (d : Nat) {σ : H} {w : Nat} {u : V} {L : List Nat} (h : Wr σ w u L) (ht : Tidy σ) (hb : Bin L) (hl : L.length ≤ 90000) (h0 : 0 < L.length) :
  ∃ v σ', TW E (d + 2) 23 [.ptr w 0] σ = some (v, σ') ∧ Nb σ σ' v (nI (pack L)) ∧ Fr Nowhere σ σ' := by
 rw [DE23]; exact r17bytes_F (xBytes d) h ht hb hl h0
theorem xSv (d : Nat) {σ : H} (ht : Tidy σ) : ∃ σ', TW E (d + 1) 33 [.agg vz, .agg vz] σ = some (.bool true, σ') ∧ Fr Nowhere σ σ' := by
 obtain ⟨ρ, hf, hr⟩ := hit1 (e := eSv) (F := BD E 200000 (TW E d) 33) (fits_of (e := eSv) (ρ := fun x => x) (args := [.agg vz, .agg vz]) (σ := σ) rfl Has.nil Inj.nil)
 exact ⟨_, by rw [DE33, hr]; rfl, Few.fr0 eSv_shape (by kernel_rfl) hf ht⟩
theorem law_r0 {τ : Nat → Nat} {σ : H} {x : V} {tbl w : Nat} {u : V} {O : List Nat} (ht : Tidy σ) (hP : Pt τ σ) (hO : O.length < 128) (h0 : 0 < O.length) (hc : ∀ c ∈ O, c < 256) (hend : endN O 1 ≠ 0) (xo : x.one = true)
  (at' : Atc σ tbl [.str ⟨1, 77⟩, .sl (τ 209) 0 1 (.op 1), .sl (τ 317) 0 1 (.op 1), .sl (τ 256) 0 2 (.op 13)]) (hw : Wr σ w u (lawB O)) :
  ∃ env b6 σ', drawW E (TW E 60) G9_0 H9_0 [(0, x), (3, .ptr tbl 0), (4, .bool true), (5, .ptr w 0)] σ = some (env, σ') ∧
   Go.Og.look env 0 = some x ∧ Go.Og.look env 4 = some (.bool true) ∧ Go.Og.look env 6 = some (.ptr b6 0) ∧ Go.Og.look env 7 = some (.int .i64 (Int.ofNat 4)) ∧ Atc σ' b6 vz ∧ Fr Nowhere σ σ' := by
 have R := read1 hO hc
 have fw : Fr Nowhere σ ⟨σ.next + 10, σ.bl⟩ := (go_start (E := E) (n := 10) (S := Nowhere) ht).fr
 obtain ⟨v, σ1, g1, n1, f1⟩ := xW17 (E := E) 58 (hw.fr fw ht) fw.tidy (lawB_bin hO) (by rw [lawB_len hO]; omega) (by rw [lawB_len hO]; omega)
 have hP1 := pt_f _ _ fw.tidy f1 (pt_f _ _ ht fw hP)
 have o1 : endN (octR (bitsO (pack (lawB O))) 17 O.length) 1 ≠ 0 := by rw [R.ho]; exact hend
 have o2 : ∀ c ∈ octR (bitsO (pack (lawB O))) 17 O.length, c < 256 := by rw [R.ho]; exact hc
 obtain ⟨σ2, g2, f2⟩ := xDec (E := E) 46 σ1 (τ 226) (τ 257) (τ 259) O.length v (pack (lawB O)) f1.tidy hP1 n1.by_ R.lt R.few R.q1 R.q0 R.q6 R.q7 (hP1.2 256 _ rfl) (hP1.2 259 _ rfl) R.hi R.hr h0 hO o2 o1
 have le1 : σ.next + 10 ≤ σ1.next := f1.le
 have le2 := f2.le
 obtain ⟨σa, ha⟩ : ∃ σa, σa = (⟨σ2.next, (σ.next + 7, .cells vz) :: σ2.bl⟩ : H) := ⟨_, rfl⟩
 have f02 : Fr Nowhere ⟨σ.next + 10, σ.bl⟩ σ2 := f1.trans f2 (fun _ _ h => h)
 have ta : Tidy σa := by
  rw [ha]
  intro b hb
  have hb : σ2.next ≤ b := hb
  show lookF ((σ.next + 7, _) :: σ2.bl) b = none
  rw [lookF_cons, if_neg (by simp only []; omega)]
  exact f2.tidy b hb
 have a7 : Atc σa (σ.next + 7) vz := by
  rw [ha]
  show lookF ((σ.next + 7, _) :: σ2.bl) _ = _
  rw [lookF_cons, if_pos rfl]
 obtain ⟨σb, g, f, ab⟩ := st_den (E := E) (D := TW E 60) (n := 6) (cs := vz) (x := .tmp 6) (y := .tmp 32) (e := [(6, .ptr (σ.next + 7) 0), (32, .agg vz)]) ta a7 rfl rfl rfl
 have vl : v.live = true := live_of n1.1.one
 have go : Goes E (TW E 60) σ 10 0 Nowhere G9_0 H9_0 ⟨[(0, x), (3, .ptr tbl 0), (4, .bool true), (5, .ptr w 0)], σ.next + 10, [σ.bl], [], 0, []⟩ _ σb :=
  go_l (.agg [.str ⟨1, 77⟩, .sl (τ 209) 0 1 (.op 1), .sl (τ 317) 0 1 (.op 1), .sl (τ 256) 0 2 (.op 13)]) (go_start ht) rfl (old_ldn (b := tbl) (off := 0) (m := 4) rfl at' rfl rfl ht (fun h => h) (beq_self _ rfl)) fun _ r1 =>
  go_p (.ptr w 0) rfl rfl <|
  go_k v r1 rfl (by decide) (S' := Nowhere) f1 (fun _ _ h => h.elim) (fun _ h _ _ => h) (call_of (vs := [.ptr w 0]) rfl rfl g1) fun _ _ _ r2 =>
  go_k (.tup [.agg vz, .int .i64 (Int.ofNat 4)]) r2 rfl (by decide) (S' := Nowhere) f2 (fun _ _ h => h.elim) (fun _ h _ _ => h) (call_of (vs := [.agg [.str ⟨1, 77⟩, .sl (τ 209) 0 1 (.op 1), .sl (τ 317) 0 1 (.op 1), .sl (τ 256) 0 2 (.op 13)], .int .i64 (Int.ofNat 0), v]) rfl (by
   show (true && (true && (v.live && true))) = true
   rw [vl]; rfl) g2) fun _ _ _ r3 =>
  go_p (.tup [.agg vz, .int .i64 (Int.ofNat 4)]) rfl rfl <|
  go_p (.agg vz) rfl rfl <|
  go_p (.int .i64 (Int.ofNat 4)) rfl rfl <|
  go_a (.ptr (σ.next + 7) 0) (.cells vz) 128 r3 rfl (by decide) (by decide) rfl fun _ r4 =>
  go_kn .dead (by rw [← ha] at r4; exact r4) rfl (by decide) (S' := fun b => b = σ.next + 7) f (fun b h e => by omega) (fun b e h1 _ => by rw [e, Nat.add_sub_cancel_left]; decide) g fun _ _ _ r5 =>
  go_p (.int .i64 (Int.ofNat 4)) rfl rfl <|
  go_nil r5
 obtain ⟨d1, d2⟩ := go_draw (ops := G9_0) go
 exact ⟨_, _, σb, d1, rfl, rfl, rfl, rfl, ab, d2⟩
theorem law_no {x : V} {O : List Nat} (hO : O.length ≤ 60) (h0 : 0 < O.length) (hc : ∀ c ∈ O, c < 256) (hend : O.length ≠ 1 ∨ ∃ c, O = [c] ∧ c % 128 ≠ 0) (hx : Sq E ⟨100, []⟩ x (nI O)) (hcp : Cap1 x) (hn : ∀ b, Names x b → b < 100) :
  okB (F9 E (TW E 60) (drawW E (TW E 60)) N [x] ⟨100, []⟩) = true := by
 have ht : Tidy ⟨100, []⟩ := fun _ _ => rfl
 have he : endN O 1 ≠ 0 := by
  rcases hend with h | ⟨c, rfl, h⟩
  ·exact end_two (by omega)
  ·exact end_one c (hc c (by simp)) h
 obtain ⟨τ, σ1, g1, P1, f1⟩ := xTab (E := E) 59 ht
 obtain ⟨σ2, e2, f2, a2, n2⟩ := mk_new f1.tidy [.str ⟨0, 0⟩, .nils, .nils, .nils]
 obtain ⟨σ3, e3, f3, a3⟩ := mk_set f2.tidy a2 [.str ⟨1, 77⟩, .sl (τ 209) 0 1 (.op 1), .sl (τ 317) 0 1 (.op 1), .sl (τ 256) 0 2 (.op 13)]
 have f13 : Fr Nowhere σ1 σ3 := f2.trans f3 (fun b hb e => by omega)
 obtain ⟨σ4, e4, f4, a4, n4⟩ := mk_new f3.tidy [.nils]
 have le0 : 100 ≤ σ1.next := f1.le
 have le3 := f13.le
 have w4 : Wr σ4 σ3.next .nils [] := ⟨a4, Dst.nil _ _, fun h => h⟩
 have f04 : Fr Nowhere ⟨100, []⟩ σ4 := (f1.trans f13 (fun _ _ h => h)).trans f4 (fun _ _ h => h)
 obtain ⟨u5, σ5, g5, s5⟩ := xBits (E := E) 58 σ4 σ3.next .nils [] 1 1 w4 f4.tidy (by decide) (by decide) (by decide)
 obtain ⟨u6, σ6, g6, s6⟩ := xBits (E := E) 58 σ5 σ3.next u5 _ 0 7 s5.wr s5.f.tidy (by decide) (by decide) (by decide)
 obtain ⟨u7, σ7, g7, s7⟩ := xBits (E := E) 58 σ6 σ3.next u6 _ 1 1 s6.wr s6.f.tidy (by decide) (by decide) (by decide)
 have s47 := (s5.trans s6).trans s7
 have x4 := hx.fr f04 hn
 have off4 : ∀ b, Names x b → Off σ4 σ3.next .nils b := fun b hb => by
  have := hn b hb
  exact ⟨by omega, by omega, fun h => h⟩
 have x7 := s47.sq off4 x4
 obtain ⟨u8, σ8, g8, s8⟩ := xPut (E := E) 56 σ7 σ3.next u7 x _ O s47.wr s47.f.tidy (by
  have : ([] ++ bitsOf 1 1 ++ bitsOf 7 0 ++ bitsOf 1 1 : List Nat).length = 9 := rfl
  rw [this]; omega) (by omega) hc x7 hcp (fun b hb => s47.off (off4 b hb))
 have s48 := s47.trans s8
 have tb4 : Off σ4 σ3.next .nils σ1.next := ⟨by have := a3.lt f3.tidy; omega, by have := a3.lt f3.tidy; omega, fun h => h⟩
 have a8 := s48.at_ f4.tidy tb4 (f4.at_ a3 f3.tidy (fun h => h))
 have P4 := pt_f _ _ f3.tidy f4 (pt_f _ _ f1.tidy f13 P1)
 have P8 : Pt τ σ8 := ⟨P4.1, P4.2.fr s48.f f4.tidy fun id hd h => by
  have := P1.2.lt f1.tidy hd
  rcases h with h | h
  ·have h : τ id = σ3.next := h
   omega
  ·exact h⟩
 obtain ⟨env, b6, σ9, g9, v0, v4, v6, v7, a9, f9⟩ := law_r0 (E := E) (x := x) s48.f.tidy P8 (by omega) h0 hc he hx.one a8 s48.wr
 obtain ⟨σ10, g10, f10⟩ := xAw (E := E) 59 f9.tidy
 have a10 := f10.at_ a9 f9.tidy (fun h => h)
 obtain ⟨σ11, g11, f11⟩ := xSv (E := E) 59 f10.tidy
 have f49 := s48.f.trans (f9.mono (fun _ _ h => h.elim) : Fr (Own1 σ3.next .nils) σ8 σ9) (fun _ _ h => h)
 have x9 := x4.keep fun b hb => f49.same b (off4 b hb).1 (off4 b hb).not
 have key : F9 E (TW E 60) (drawW E (TW E 60)) N [x] ⟨100, []⟩ = some (.bool true, σ11) := by
  have sx : ∀ κ : Nat → Ans, slenK x κ = κ O.length := fun κ => by rw [hx.slen, nI_length]
  have s3 : ∀ κ : H → Ans, stK 4 σ1.next 0 (.agg [.str ⟨1, 77⟩, .sl (τ 209) 0 1 (.op 1), .sl (τ 317) 0 1 (.op 1), .sl (τ 256) 0 2 (.op 13)]) σ2 κ = κ σ3 := fun κ => by
   rw [stK_at a2 rfl]
   show κ (setF σ2 σ1.next (.cells _)) = _
   rw [show spl [V.str ⟨0, 0⟩, .nils, .nils, .nils] 0 (V.agg [.str ⟨1, 77⟩, .sl (τ 209) 0 1 (.op 1), .sl (τ 317) 0 1 (.op 1), .sl (τ 256) 0 2 (.op 13)]).cells = [.str ⟨1, 77⟩, .sl (τ 209) 0 1 (.op 1), .sl (τ 317) 0 1 (.op 1), .sl (τ 256) 0 2 (.op 13)] from rfl, e3]
  have gd : ∀ κ : Env → H → Ans, gdrawK (drawW E (TW E 60) G9_0 H9_0 [(0, x), (3, .ptr σ1.next 0), (4, .bool true), (5, .ptr σ3.next 0)] σ8) κ = κ env σ9 := fun κ => by rw [g9]; rfl
  have l0 : ∀ κ : V → Ans, getL env 0 κ = κ x := fun κ => getL_of v0 (live_of hx.one)
  have l4 : ∀ κ : V → Ans, getL env 4 κ = κ (.bool true) := fun κ => getL_of v4 rfl
  have l6 : ∀ κ : V → Ans, getL env 6 κ = κ (.ptr b6 0) := fun κ => getL_of v6 rfl
  have l7 : ∀ κ : V → Ans, getL env 7 κ = κ (.int .i64 (Int.ofNat 4)) := fun κ => getL_of v7 rfl
  have l9 : ∀ κ : List V → Ans, ldnK E σ10 b6 0 6 κ = κ vz := fun κ => (ldnK_is a10).trans rfl
  have d60 : decide (60 < O.length) = false := decide_eq_false (by omega)
  change TW E 60 _ _ _ = _ at g1 g5 g6 g7 g8 g10 g11
  unfold t0 at g1
  unfold vz at l9 g11
  show T9_0 E (TW E 60) (drawW E (TW E 60)) x ⟨100, []⟩ = _
  unfold T9_0
  simp -implicitDefEqProofs only [↓nthK_zero, ↓nthK_succ, ↓subK_2, ↓subK_4, ↓subK_5, ↓subK_6, ↓subK_13, ↓subK_con, ↓rtInt_int, ↓rtBool_bool, ↓rtStr_str, ↓rtPtr_ptr, ↓rtAgg_agg, ↓rtTup_tup, ↓rtCons_cons, ↓rtNil_nil, ↓rtOne_nils, ↓rtOne_pt, ↓rtOne_sl, ↓slenK_nils, ↓slenK_sl, ↓callK_some_, ↓condK_ift, ↓condK_iff, ↓chk_if, ↓joinB_, cells_agg, cells_int, cells_ptr, allOne_cons, allOne_nil, one_int, one_bool, one_str, one_nils, one_sl, one_ptr, Bool.and_true, Nat.add_eq, Nat.zero_add, Bool.not_true, Bool.not_false, eqF_nat, ltF_nat, leF_nat, Nat.reduceEqDiff, Nat.reduceLT, Nat.reduceLeDiff, decide_false, decide_true, Bool.false_or, Bool.true_or, Bool.or_false, Bool.or_true, Bool.false_and, Bool.true_and, Bool.and_false, ↓sx, d60, ↓g1, ↓e2, ↓s3, ↓e4, ↓g5, ↓g6, ↓g7, ↓g8, ↓gd, ↓l0, ↓l4, ↓l6, ↓l7, ↓g10, ↓l9, ↓g11]
  rcases hend with h | ⟨c, rfl, h⟩
  ·rw [decide_eq_false h]; rfl
  ·rw [show decide (([c] : List Nat).length = 1) = true from rfl]
   refine (by_at x9 (nI_get (O := [c]) (k := 0) (c := c) rfl) _).trans ?_
   rw [rtInt_int]
   have : ∀ c : Fin 256, c.val % 128 ≠ 0 → (not (eqF (andF .u8 (Int.ofNat c.val) (Int.ofNat 127)) (Int.ofNat 0))) = true := by decide +kernel
   rw [this ⟨c, hc c (by simp)⟩ h]; rfl
 rw [key]; rfl
end
end
end Go.Proofs.YtgjjnbddbbhloaaGreatDoor
set_option linter.all false
set_option maxRecDepth 100000
set_option maxHeartbeats 0
namespace Go.Proofs.YtgjjnbddbbhloaaGreatDoor
open Go Go.Og
noncomputable section
def cT : Con := ⟨eT.args, eT.v, eT.bl1, 230⟩
def cAw : Con := ⟨[], .bool true, [], 668⟩
def knc : List (Nat × List Con) := [(13, [cT]), (31, [cAw])]
theorem cT_right : cT.right (DT ([] : List (Nat × Blk)) 100000 60 13) = true := by kernel_rfl
theorem cAw_right : cAw.right (DT ([] : List (Nat × Blk)) 100000 60 31) = true := by kernel_rfl
def D1 (E : List (Nat × Blk)) : Den := Nat.rec (fun _ _ _ => none) (fun _ ih f => match lookF knc f with
 | some l => fun args σ => findC l args σ (BD E 100000 ih f args σ)
 | none => BD E 100000 ih f) 60
theorem D1_ok (E : List (Nat × Blk)) : ∀ f : FuncId, SoundFn Tryz.prog E glob f (D1 E f) := by
 have key : ∀ (d : Nat) (f : FuncId), SoundFn Tryz.prog E glob f ((Nat.rec (fun _ _ _ => none) (fun _ ih f => match lookF knc f with
  | some l => fun args σ => findC l args σ (BD E 100000 ih f args σ)
  | none => BD E 100000 ih f) d : Den) f) := by
  intro d
  induction d with
  | zero => intro f C _ _ R σ w args xs v σ' h; cases h
  | succ d ih =>
   intro f
   show SoundFn Tryz.prog E glob f (match lookF knc f with
    | some l => fun args σ => findC l args σ (BD E 100000 _ f args σ)
    | none => BD E 100000 _ f)
   split
   ·rename_i l hl
    rw [lookF_eq] at hl
    have hm := look_mem hl
    have hg : Go.Og.Good Tryz.prog glob f l := by
     unfold knc at hm
     simp only [List.mem_cons, List.not_mem_nil, or_false, Prod.mk.injEq] at hm
     rcases hm with ⟨rfl, rfl⟩ | ⟨rfl, rfl⟩
     ·intro e he
      obtain rfl := List.mem_singleton.1 he
      exact ⟨_, DT_ok ([] : List (Nat × Blk)) 100000 60 _, cT_right⟩
     ·intro e he
      obtain rfl := List.mem_singleton.1 he
      exact ⟨_, DT_ok ([] : List (Nat × Blk)) 100000 60 _, cAw_right⟩
    exact findE_ok (BD_ok E 100000 _ ih f) globLt (by decide) hg
   ·exact BD_ok E 100000 _ ih f
 exact key 60
theorem run_nils : okB (F9 [] (D1 []) (drawW [] (D1 [])) 100000 [.nils] ⟨100, []⟩) = true := by kernel_rfl
theorem run_empty (c : Nat) : okB (F9 [] (D1 []) (drawW [] (D1 [])) 100000 [.sl 50 0 0 (.ex c)] ⟨100, []⟩) = true := by kernel_rfl
theorem run_0 (c : Nat) : okB (F9 [(50, .cells [.int .u8 (Int.ofNat 0)])] (D1 [(50, .cells [.int .u8 (Int.ofNat 0)])]) (drawW [(50, .cells [.int .u8 (Int.ofNat 0)])] (D1 [(50, .cells [.int .u8 (Int.ofNat 0)])])) 100000 [.sl 50 0 1 (.ex (c + 1))] ⟨100, []⟩) = true := by kernel_rfl
theorem run_128 (c : Nat) : okB (F9 [(50, .cells [.int .u8 (Int.ofNat 128)])] (D1 [(50, .cells [.int .u8 (Int.ofNat 128)])]) (drawW [(50, .cells [.int .u8 (Int.ofNat 128)])] (D1 [(50, .cells [.int .u8 (Int.ofNat 128)])])) 100000 [.sl 50 0 1 (.ex (c + 1))] ⟨100, []⟩) = true := by kernel_rfl
theorem law_big {E : List (Nat × Blk)} {W : DrawFn} {N : Nat} {x : V} {n : Nat} (hx : ∀ κ : Nat → Ans, slenK x κ = κ n) (hn : 60 < n) : okB (F9 E (TW E 60) W N [x] ⟨100, []⟩) = true := by
 obtain ⟨σ, g, _⟩ := xAw (E := E) 59 (σ := ⟨100, []⟩) (fun _ _ => rfl)
 have key : F9 E (TW E 60) W N [x] ⟨100, []⟩ = some (.bool true, σ) := by
  change TW E 60 _ _ _ = _ at g
  show T9_0 E (TW E 60) W x ⟨100, []⟩ = _
  unfold T9_0
  simp -implicitDefEqProofs only [↓nthK_zero, ↓nthK_succ, ↓subK_2, ↓subK_4, ↓subK_5, ↓subK_6, ↓subK_13, ↓subK_con, ↓rtInt_int, ↓rtBool_bool, ↓rtStr_str, ↓rtPtr_ptr, ↓rtAgg_agg, ↓rtTup_tup, ↓rtCons_cons, ↓rtNil_nil, ↓rtOne_nils, ↓rtOne_pt, ↓rtOne_sl, ↓slenK_nils, ↓slenK_sl, ↓callK_some_, ↓condK_ift, ↓condK_iff, ↓chk_if, ↓joinB_, cells_agg, cells_int, cells_ptr, allOne_cons, allOne_nil, one_int, one_bool, one_str, one_nils, one_sl, one_ptr, Bool.and_true, Nat.add_eq, Nat.zero_add, Bool.not_true, Bool.not_false, eqF_nat, ltF_nat, leF_nat, Nat.reduceEqDiff, Nat.reduceLT, Nat.reduceLeDiff, decide_false, decide_true, Bool.false_or, Bool.true_or, Bool.or_false, Bool.or_true, Bool.false_and, Bool.true_and, Bool.and_false, ↓hx, decide_eq_true hn, ↓g]
 rw [key]; rfl
end
end Go.Proofs.YtgjjnbddbbhloaaGreatDoor
set_option maxRecDepth 100000
set_option maxHeartbeats 0
namespace Go.Proofs.YtgjjnbddbbhloaaGreatDoor.uperinOpen
open Go
theorem k_inPlace : (Rows.uperinOpenRow.inPlace == Tryz.pinned.checked.prog.inPlace 9) = true := by kernel_rfl
theorem k_unfollowed : (Rows.uperinOpenRow.unfollowed == Tryz.pinned.checked.prog.unfollowed 9) = true := by kernel_rfl
theorem k_recurses : (Rows.uperinOpenRow.recurses == Tryz.pinned.checked.prog.recurses 9) = true := by kernel_rfl
theorem k_varsNamed : (Rows.uperinOpenRow.named == Tryz.pinned.checked.prog.varsNamed 9) = true := by kernel_rfl
end Go.Proofs.YtgjjnbddbbhloaaGreatDoor.uperinOpen
