/- Digits, and Number: the walk. -/
import Derived.Test.YtjolbidcficdhaaDoorDg
import Derived.Test.YtjolbidcficdhaaDoorOgT2
set_option linter.all false
set_option maxRecDepth 100000
namespace Go.Proofs.YtjolbidcficdhaaDoor
open Go Go.Og
noncomputable section
def SpDigits (k : Nat) (F : List V → H → Ans) : Prop := ∀ (σ : H) (v : Nat), Tidy σ → v < 10 ^ (k + 1) → v ≤ 18446744073709551615 →
  ∃ σ', F [.int .u64 (Int.ofNat v)] σ = some (.str (ofN (digsF k v)), σ') ∧ Fr Nowhere σ σ'
theorem bytes_one {m : Nat} (h : m < 256) : BS.ofList [UInt8.ofNat (Int.ofNat m).toNat] = ofN [m] :=
  (ofN_eq (l := [m]) (fun c hc => by simp at hc; omega)).symm
theorem digits_small {k : Nat} (D : Den) (W : DrawFn) (N : Nat) (σ : H) (v : Nat) (ht : Tidy σ) (hv : v < 10) : ∃ σ', F17 [] D W N [.int .u64 (Int.ofNat v)] σ = some (.str (ofN (digsF k v)), σ') ∧ Fr Nowhere σ σ' := by
  refine ⟨newB σ (.cells [.int .u8 (Int.ofNat (48 + v))]), ?_, Fr.new ht _⟩
  have e : digsF k v = [48 + v] := by
    cases k with
    | zero => rfl
    | succ k =>
      show (match Nat.blt v 10 with | true => _ | false => _) = _
      rw [show Nat.blt v 10 = true by simpa [Nat.blt_eq] using hv]
  have h1 : wrapF .u8 (addF .u64 (Int.ofNat 48) (Int.ofNat v)) = Int.ofNat (48 + v) := by
    have : addF .u64 (Int.ofNat 48) (Int.ofNat v) = Int.ofNat (48 + v) := wrapF_nat (k := .u64) (m := 48 + v) (show _ ≤ 18446744073709551615 by omega)
    rw [this]
    exact wrapF_nat (k := .u8) (show _ ≤ 255 by omega)
  show T17_0 [] D W (Int.ofNat v) σ = _
  simp only [T17_0, ltF_nat, h1]
  rw [decide_eq_true hv, condK_true]
  have ha : Atc (newB σ (.cells [.int .u8 (Int.ofNat (48 + v))])) σ.next [.int .u8 (Int.ofNat (48 + v))] := Atc_newB _
  rw [toStrK_sl, srcK_ex ha (by simp)]
  show some (V.str (BS.ofList [UInt8.ofNat (Int.ofNat (48 + v)).toNat]), _) = _
  rw [bytes_one (by omega), e]
theorem digits0_F (D : Den) (W : DrawFn) (N : Nat) : SpDigits 0 (F17 [] D W N) := fun σ v ht hv _ => digits_small D W N σ v ht (by simpa using hv)
theorem digits_F {D : Den} {N k : Nat} (h : SpDigits k (D 17)) (hk : k ≤ 30) : SpDigits (k + 1) (F17 [] D (drawW [] D) N) := by
  intro σ v ht hv hv2
  by_cases hs : v < 10
  · exact digits_small D _ N σ v ht hs
  have hk1 : v / 10 < 10 ^ (k + 1) := by
    rw [Nat.div_lt_iff_lt_mul (by decide)]
    rw [Nat.pow_succ] at hv; exact hv
  obtain ⟨σ1, g1, g2⟩ := h ⟨σ.next + 11, σ.bl⟩ (v / 10) (ht.wide 11) hk1 (by omega)
  have hgap := g2.gap ht (fun b hb => hb.elim)
  obtain ⟨d1, d2, d3, d4, _⟩ := digsF_ok k (v / 10) hk1
  have hle : σ.next + 11 ≤ σ1.next := g2.le
  let c : Blk := .cells [.int .u8 (Int.ofNat (48 + v % 10))]
  have e : digsF (k + 1) v = digsF k (v / 10) ++ [48 + v % 10] := by
    show (match Nat.blt v 10 with | true => _ | false => _) = _
    rw [show Nat.blt v 10 = false by rw [Bool.eq_false_iff]; simpa [Nat.blt_eq] using hs]
  have hquo : binV .quo .none (.int .u64 (Int.ofNat v)) (.int .u64 (Int.ofNat 10)) = some (.int .u64 (Int.ofNat (v / 10))) := by
    show some (V.int .u64 (IntKind.wrap .u64 (Int.ofNat (v / 10)))) = _
    rw [← wrapF_eq, wrapF_nat (k := .u64) (show v / 10 ≤ 18446744073709551615 by omega)]
  have hrem : binV .rem .none (.int .u64 (Int.ofNat v)) (.int .u64 (Int.ofNat 10)) = some (.int .u64 (Int.ofNat (v % 10))) := rfl
  have hadd : binV .add .none (.int .u64 (Int.ofNat 48)) (.int .u64 (Int.ofNat (v % 10))) = some (.int .u64 (Int.ofNat (48 + v % 10))) := by
    show some (V.int .u64 (IntKind.wrap .u64 (Int.ofNat (48 + v % 10)))) = _
    rw [← wrapF_eq, wrapF_nat (k := .u64) (show 48 + v % 10 ≤ 18446744073709551615 by omega)]
  have hconv : aopP (.conv (.toInt .u8) (.tmp 15)) [(15, .int .u64 (Int.ofNat (48 + v % 10)))] = some (.int .u8 (Int.ofNat (48 + v % 10))) := by
    show some (V.int .u8 (IntKind.wrap .u8 (Int.ofNat (48 + v % 10)))) = _
    rw [← wrapF_eq, wrapF_nat (k := .u8) (show 48 + v % 10 ≤ 255 by omega)]
  have hcall : den1 [] D (.call 17 [.tmp 11]) [(11, .int .u64 (Int.ofNat (v / 10)))] ⟨σ.next + 11, σ.bl⟩ = some (.str (ofN (digsF k (v / 10))), σ1) := g1
  have hstr : ∀ (l : List (Nat × Blk)) (nx : Nat), aopL [] (.conv .toStr (.tmp 17)) [(17, .sl (σ.next + 7) 0 1 (.ex 1))] ⟨nx, hideB σ.next 11 (visK 248 128) ((σ.next + 7, c) :: l)⟩ = some (.str (ofN [48 + v % 10])) := fun l nx => by
    have hl : Go.Og.look (hideB σ.next 11 (visK 248 128) ((σ.next + 7, c) :: l)) (σ.next + 7) = some c := by
      rw [look_hide_kept (by decide), look_cons_eq]
    show (match (rdN [] ⟨nx, hideB σ.next 11 (visK 248 128) ((σ.next + 7, c) :: l)⟩ (σ.next + 7) 0 (1 * 1)).map (fun l => (1, l)) with
      | some (_, l) => (match bytesOf l with | some s => some (V.str (BS.ofList s)) | none => none)
      | none => none) = _
    unfold rdN rd
    simp only [hl]
    show some (V.str (BS.ofList [UInt8.ofNat (Int.ofNat (48 + v % 10)).toNat])) = _
    rw [bytes_one (by omega)]
  have hcat : binV .add .none (.str (ofN (digsF k (v / 10)))) (.str (ofN [48 + v % 10])) = some (.str (ofN (digsF (k + 1) v))) := by
    show (match Nat.ble (Nat.add (ofN (digsF k (v / 10))).len (ofN [48 + v % 10]).len) 1000000000000 with | true => some (V.str ((ofN (digsF k (v / 10))).cat (ofN [48 + v % 10]))) | false => none) = _
    rw [show Nat.ble (Nat.add (ofN (digsF k (v / 10))).len (ofN [48 + v % 10]).len) 1000000000000 = true from ble_of (by rw [ofN_len, ofN_len]; show (digsF k (v / 10)).length + 1 ≤ _; omega)]
    simp only []
    rw [ofN_cat d1.bd (fun c hc => by simp at hc; omega), e]
  have h0 := ht.gap 11
  have hdr : drawW [] D G17_0 H17_0 [(0, .int .u64 (Int.ofNat v))] σ = some ((2, .str (ofN (digsF (k + 1) v))) :: [(19, .str (ofN (digsF (k + 1) v))), (18, .str (ofN [48 + v % 10])), (17, .sl (σ.next + 7) 0 1 (.ex 1)), (16, .int .u8 (Int.ofNat (48 + v % 10))), (15, .int .u64 (Int.ofNat (48 + v % 10))), (14, .int .u64 (Int.ofNat (v % 10))), (13, .int .u64 (Int.ofNat v)), (12, .str (ofN (digsF k (v / 10)))), (11, .int .u64 (Int.ofNat (v / 10))), (10, .int .u64 (Int.ofNat v)), (0, .int .u64 (Int.ofNat v))],
      ⟨σ1.next, hideB σ.next 11 (fun k => (128 : Nat).testBit k) ((σ.next + 7, c) :: σ1.bl)⟩) := by
    refine drawW_of (s := ⟨_, σ1.next, [(σ.next + 7, c) :: σ1.bl, (σ.next + 7, c) :: σ.bl], [2], 128, [(8, .conv .toStr (.tmp 17), [(17, .sl (σ.next + 7) 0 1 (.ex 1))], .str (ofN [48 + v % 10]))]⟩) ?_ ?_ rfl
    · refine (dsteps_p rfl rfl rfl).trans ?_
      refine (dsteps_p (v := .int .u64 (Int.ofNat (v / 10))) rfl rfl ?_).trans ?_
      · exact hquo
      refine (dsteps_k (σ' := σ1) (v := .str (ofN (digsF k (v / 10)))) rfl rfl rfl ?_).trans ?_
      · show den1 [] D (.call 17 [.tmp 11]) [(11, .int .u64 (Int.ofNat (v / 10)))] ⟨σ.next + 11, hideB σ.next 11 (visK 3 0) σ.bl⟩ = _
        rw [hideB_id h0]; exact hcall
      show dsteps [] D σ.next 11 3 _ _ ⟨_, σ1.next, [keepB σ.next 11 (visK 3 0) σ.bl ++ σ1.bl, σ.bl], [2], 0, []⟩ = _
      rw [keepB_id h0]
      refine (dsteps_p rfl rfl rfl).trans ?_
      refine (dsteps_p (v := .int .u64 (Int.ofNat (v % 10))) rfl rfl ?_).trans ?_
      · exact hrem
      refine (dsteps_p (v := .int .u64 (Int.ofNat (48 + v % 10))) rfl rfl ?_).trans ?_
      · exact hadd
      refine (dsteps_p (v := .int .u8 (Int.ofNat (48 + v % 10))) rfl rfl ?_).trans ?_
      · exact hconv
      refine (dsteps_a' (v := .sl (σ.next + 7) 0 1 (.ex 1)) (b := c) (id := σ.next + 7) (am' := 128) rfl rfl rfl (show (0 : Nat) ||| 2 ^ 7 = 128 from by decide) rfl).trans ?_
      show dsteps [] D σ.next 11 8 _ _ ⟨_, σ1.next, [(σ.next + 7, c) :: σ1.bl, (σ.next + 7, c) :: σ.bl], [2], 128, []⟩ = _
      refine (dsteps_l (v := .str (ofN [48 + v % 10])) rfl rfl rfl ?_).trans ?_
      · exact hstr σ1.bl σ1.next
      refine (dsteps_p (v := .str (ofN (digsF (k + 1) v))) rfl rfl ?_).trans ?_
      · exact hcat
      refine (dsteps_p rfl rfl rfl).trans ?_
      exact dsteps_nil
    · simp only [List.all_cons, List.all_nil, Bool.and_true]
      have hs1 := hstr σ1.bl 0
      have hs0 := hstr σ.bl 0
      show (((!legal H17_0 8 [2] []) || (match aopL [] (.conv .toStr (.tmp 17)) [(17, .sl (σ.next + 7) 0 1 (.ex 1))] ⟨0, hideB σ.next 11 (visK 248 128) ((σ.next + 7, c) :: σ1.bl)⟩ with | some u => V.beq u (.str (ofN [48 + v % 10])) | none => false)) &&
        (((!legal H17_0 8 [] [2]) || (match aopL [] (.conv .toStr (.tmp 17)) [(17, .sl (σ.next + 7) 0 1 (.ex 1))] ⟨0, hideB σ.next 11 (visK 248 128) ((σ.next + 7, c) :: σ.bl)⟩ with | some u => V.beq u (.str (ofN [48 + v % 10])) | none => false)) && true)) = true
      rw [hs1, hs0]
      have hb : V.beq (.str (ofN [48 + v % 10])) (.str (ofN [48 + v % 10])) = true := by
        show decide _ = true
        exact decide_eq_true rfl
      simp only [hb, Bool.or_true, Bool.and_true]
  refine ⟨⟨σ1.next, hideB σ.next 11 (fun k => (128 : Nat).testBit k) ((σ.next + 7, c) :: σ1.bl)⟩, ?_, ?_⟩
  · show T17_0 [] D (drawW [] D) (Int.ofNat v) σ = _
    simp only [T17_0, ltF_nat]
    rw [decide_eq_false hs, condK_false, hdr]
    rfl
  · refine ⟨fun b hb => ?_, show σ.next ≤ σ1.next by omega, fun b hb hn => ?_⟩
    · have hb' : σ1.next ≤ b := hb
      show lookF (hideB _ _ _ _) b = none
      rw [lookF_eq, look_hide_new (by omega), look_cons_ne (by omega), ← lookF_eq]
      exact g2.tidy b hb'
    · show lookF (hideB _ _ _ _) b = _
      rw [lookF_eq, look_hide_old hb, look_cons_ne (by omega), ← lookF_eq]
      exact g2.same b (show b < σ.next + 11 by omega) hn
end
end Go.Proofs.YtjolbidcficdhaaDoor
