/- SyntaxMarks: the functions put together, and the law. -/
import Derived.Test.YtjolbidcficdhaaDoorMk
import Derived.Test.YtjolbidcficdhaaDoorDE
set_option linter.all false
set_option maxRecDepth 100000
set_option maxHeartbeats 1000000
namespace Go.Proofs.YtjolbidcficdhaaDoor
open Go Go.Og
noncomputable section
theorem big : 10000 < 100000 := by decide
theorem xPeek (d : Nat) : SpPeek (DT [] 100000 (d + 1) 32) := by rw [DE32]; exact peek_F _ _ _
theorem xLetter (d : Nat) : SpLetter (DT [] 100000 (d + 1) 34) := by rw [DE34]; exact letter_F _ _ _
theorem xDigit (d : Nat) : SpDigit (DT [] 100000 (d + 1) 36) := by rw [DE36]; exact digit_F _ _ _
theorem xLHP (d : Nat) : SpPre (DT [] 100000 (d + 1) 58) := by rw [DE58]; exact lHP_F _ _ _
theorem xSHP (d : Nat) : SpPre (DT [] 100000 (d + 2) 48) := by rw [DE48]; exact sHP_F (xLHP d)
theorem xAhead (d : Nat) : SpAhead (DT [] 100000 (d + 3) 33) := by rw [DE33]; exact ahead_F (xSHP d)
theorem xSkip (d : Nat) : SpSkip 100000 (DT [] 100000 (d + 4) 18) := by rw [DE18]; exact skip_F (xPeek (d + 2)) (xAhead d) big
theorem xWord (d : Nat) : SpWord (DT [] 100000 (d + 1) 49) := by rw [DE49]; exact word_F _ _ _
theorem xName (d : Nat) : SpTok nameLen (fun r => nameK (r.take (nameLen r))) (fun r => letterB (r.getD 0 0) = true) (DT [] 100000 (d + 2) 35) := by rw [DE35]; exact name_F (xPeek d) (xLetter d) (xDigit d) (xWord d) big
theorem xUint (d : Nat) : SpUint (DT [] 100000 (d + 1) 68) := by rw [DE68]; exact uint_F big
theorem xIInt (d : Nat) : SpInt (DT [] 100000 (d + 2) 59) := by rw [DE59]; exact iint_F (xUint d)
theorem xInt (d : Nat) : SpInt (DT [] 100000 (d + 3) 50) := by rw [DE50]; exact sint_F (xIInt d)
theorem xNum (d : Nat) : SpNum (DT [] 100000 (d + 4) 37) := by rw [DE37]; exact num_F (xPeek (d + 2)) (xLetter (d + 2)) (xDigit (d + 2)) (xInt d) big
theorem xSign (d : Nat) : SpSign (DT [] 100000 (d + 4) 40) := by rw [DE40]; exact sign_F (xAhead d) big
theorem xToken (d : Nat) : SpToken (DT [] 100000 (d + 5) 19) := by rw [DE19]; exact token_F (xPeek (d + 3)) (xLetter (d + 3)) (xDigit (d + 3)) (xName (d + 2)) (xNum d) (xSign d)
theorem xTokens (d : Nat) : SpTokens 100000 (DT [] 100000 (d + 6) 11) := by rw [DE11]; exact tokens_F (xToken d) (xSkip (d + 1)) big
theorem xSPeek (d : Nat) : SpSPeek (DT [] 100000 (d + 1) 23) := by rw [DE23]; exact speek_F
theorem xNext (d : Nat) : SpNext (DT [] 100000 (d + 1) 42) := by rw [DE42]; exact next_F
theorem xStands (d : Nat) : SpStands (DT [] 100000 (d + 2) 22) := by rw [DE22]; exact stands_F (xSPeek d)
theorem xIs (d : Nat) : SpIs (DT [] 100000 (d + 3) 43) := by rw [DE43]; exact is_F (xStands d) (xNext (d + 1))
theorem xWant (d : Nat) : SpWant (DT [] 100000 (d + 4) 21) := by rw [DE21]; exact want_F (xIs d) big
theorem xOf (d : Nat) : SpOf (DT [] 100000 (d + 2) 20) := by rw [DE20]; exact of_F (xSPeek d) (xNext d)
theorem xPNum (d : Nat) : SpPNum (DT [] 100000 (d + 4) 73) := by rw [DE73]; exact pnum_F (xOf (d + 1)) (xInt d)
theorem xFail (d : Nat) : SpFail (DT [] 100000 (d + 1) 41) := by rw [DE41]; exact fail_F
theorem xBegins (d : Nat) : SpBegins (DT [] 100000 (d + 1) 52) := by rw [DE52]; exact begins_F
theorem xNode {ts : List Tk} {j : Nat} {r : MarkR} (d : Nat) (hM : SpMark ts j r (DT [] 100000 (d + 5) 62))
    (hr : r.ok = true → r.a = 0 ∧ r.e = 0 ∧ ∃ t, ts[r.j']? = some t ∧ t.1 = 5 ∧ stB t (BS.mk 7 22026814072246082) = false ∧ stB t (BS.mk 4 1280070990) = true) : SpNode ts j r (DT [] 100000 (d + 6) 53) := by
  rw [DE53]; exact node_F (xIs (d + 2)) (xSPeek (d + 4)) hM hr
theorem xMod {ts : List Tk} {r : MarkR} (d : Nat) (hM : SpMark ts 6 r (DT [] 100000 (d + 5) 62))
    (hr : r.ok = true → r.a = 0 ∧ r.e = 0 ∧ ∃ t, ts[r.j']? = some t ∧ t.1 = 5 ∧ stB t (BS.mk 7 22026814072246082) = false ∧ stB t (BS.mk 4 1280070990) = true)
    (hm : ModT ts r) (h5 : ∃ t, ts[5]? = some t ∧ stB t (BS.mk 3 4012602) = true) (h6 : ∃ t, ts[6]? = some t ∧ stB t (BS.mk 1 91) = true ∧ t.1 = 6) : SpMod ts r (DT [] 100000 (d + 9) 12) := by
  obtain ⟨t6, ht6, hs6, hk6⟩ := h6
  obtain ⟨t5, ht5, hs5⟩ := h5
  obtain ⟨t4, ht4, hk4⟩ := hm.t4
  have hT : SpTyp ts 6 r (DT [] 100000 (d + 7) 44) := by
    rw [DE44]; exact typ_F (xSPeek (d + 5)) (xBegins (d + 5)) (xNode d hM hr) ht6 hs6 hk6
  have hA : SpAssign ts 4 r (DT [] 100000 (d + 8) 24) := by
    rw [DE24]; exact assign_F (xNext (d + 6)) (xWant (d + 3)) hT ht4 hk4 ht5 hs5
  rw [DE12]
  exact mod_F (xSPeek (d + 7)) (xStands (d + 6)) (xOf (d + 6)) (xWant (d + 4)) hA hm big

/-! ### what is asked of Parse -/
def inT (v : Int) : Bool := decide (0 ≤ v) && decide (v ≤ 268435456)
def markR (v : Int) (m : Nat) : MarkR := match inT v with
  | true => ⟨true, v, m, (match m with | 0 => 9 | _ => 10), 0, 0⟩
  | false => ⟨false, v, 0, 8, 31, 12⟩
def QQ (v : Int) (m : Nat) (σ' : H) (a b c d e : V) (pv ev : Int) : Prop := match inT v with
  | true => pv = Int.ofNat 0 ∧ ev = Int.ofNat 0 ∧ ∃ nb, e = .sl nb 0 1 (.op 16) ∧ Atc σ' nb (null16 4 v m)
  | false => pv = Int.ofNat 31 ∧ ev = Int.ofNat 12 ∧ e = .nils
theorem text_len (w : List Nat) (m : Nat) : (textT w m).length = 31 + (w ++ sufT m).length := by
  unfold textT
  rw [List.length_append, List.length_cons, show preT.length = 30 from rfl]; omega
theorem suf_len (m : Nat) : (sufT m).length ≤ 20 := by
  obtain ⟨_, h⟩ := wordT_bd m
  unfold sufT
  simp only [List.length_append, List.length_cons, List.length_nil]; omega
theorem text_bd {v : Int} (hv : In64 v) (m : Nat) : ∀ c ∈ textT (numC v) m, c < 256 := by
  obtain ⟨hok, _, _⟩ := numC_ok hv
  obtain ⟨neg, ds, hwd, hds, hne, _⟩ := hok.ex
  have wbd : ∀ x ∈ numC v, x < 256 := fun x hx => by
    rw [hwd] at hx
    cases neg with
    | true =>
      rcases List.mem_cons.1 hx with rfl | hx
      · omega
      · exact hds.bd x hx
    | false => exact hds.bd x hx
  obtain ⟨kb, _⟩ := wordT_bd m
  intro c hc
  unfold textT sufT at hc
  simp only [List.mem_append, List.mem_cons] at hc
  rcases hc with h | h | h | (((h | h | h) | h) | h) | h
  · exact preT_bd c h
  · omega
  · exact wbd c h
  · omega
  · omega
  · cases h
  · exact kb c h
  · revert h; simp; omega
  · revert h; simp; omega
theorem stB_of {k a : Nat} {w : List Nat} {s : BS} {b : Bool} (h : ((eqF (Int.ofNat k) (Int.ofNat 5) || eqF (Int.ofNat k) (Int.ofNat 6)) && BS.beq (ofN w) s) = b) : stB (k, w, a) s = b := h
theorem mods0 {v : Int} {w : List Nat} (hok : NumOk w v) (dd : Nat) (a0 a1 a2 a3 a4 a5 a6 a8 a9 a10 a11 : Nat) : SpMod [(1, [77], a0), (5, [68, 69, 70, 73, 78, 73, 84, 73, 79, 78, 83], a1), (6, [58, 58, 61], a2), (5, [66, 69, 71, 73, 78], a3), (1, [65], a4), (6, [58, 58, 61], a5), (6, [91], a6), (3, w, 31), (6, [93], a8), (5, [78, 85, 76, 76], a9), (5, [69, 78, 68], a10), (0, [], a11)] (markR v 0) (DT [] 100000 (dd + 9) 12) := by
  cases hin : inT v with
  | false =>
    have hv' : v < 0 ∨ 268435456 < v := by
      unfold inT at hin
      rw [Bool.and_eq_false_iff] at hin
      simp only [decide_eq_false_iff_not] at hin; omega
    have hr : markR v 0 = ⟨false, v, 0, 8, 31, 12⟩ := by unfold markR; rw [hin]
    rw [hr]
    have hMark : SpMark [(1, [77], a0), (5, [68, 69, 70, 73, 78, 73, 84, 73, 79, 78, 83], a1), (6, [58, 58, 61], a2), (5, [66, 69, 71, 73, 78], a3), (1, [65], a4), (6, [58, 58, 61], a5), (6, [91], a6), (3, w, 31), (6, [93], a8), (5, [78, 85, 76, 76], a9), (5, [69, 78, 68], a10), (0, [], a11)] 6 ⟨false, v, 0, 8, 31, 12⟩ (DT [] 100000 (dd + 5) 62) := by
      rw [DE62]
      exact mark_bad (j := 6) (xIs (dd + 1)) (xPNum dd) (xFail (dd + 3)) (t0 := (6, [91], a6)) (w := w) rfl (stB_of (by decide +kernel)) rfl hok hv'
    exact xMod dd hMark (fun h => by cases h) ⟨⟨(1, [77], a0), rfl, rfl⟩, ⟨(5, [68, 69, 70, 73, 78, 73, 84, 73, 79, 78, 83], a1), rfl, stB_of (by decide +kernel)⟩, ⟨(6, [58, 58, 61], a2), rfl, stB_of (by decide +kernel), stB_of (by decide +kernel), stB_of (by decide +kernel), stB_of (by decide +kernel)⟩, ⟨(5, [66, 69, 71, 73, 78], a3), rfl, stB_of (by decide +kernel)⟩, ⟨(1, [65], a4), rfl, rfl⟩, fun h => by cases h⟩ ⟨(6, [58, 58, 61], a5), rfl, stB_of (by decide +kernel)⟩ ⟨(6, [91], a6), rfl, stB_of (by decide +kernel), rfl⟩
  | true =>
    have hv' : 0 ≤ v ∧ v ≤ 268435456 := by
      unfold inT at hin
      simpa only [Bool.and_eq_true, decide_eq_true_eq] using hin
    have hr : markR v 0 = ⟨true, v, 0, 9, 0, 0⟩ := by unfold markR; rw [hin]; rfl
    rw [hr]
    have hMark : SpMark [(1, [77], a0), (5, [68, 69, 70, 73, 78, 73, 84, 73, 79, 78, 83], a1), (6, [58, 58, 61], a2), (5, [66, 69, 71, 73, 78], a3), (1, [65], a4), (6, [58, 58, 61], a5), (6, [91], a6), (3, w, 31), (6, [93], a8), (5, [78, 85, 76, 76], a9), (5, [69, 78, 68], a10), (0, [], a11)] 6 ⟨true, v, 0, 9, 0, 0⟩ (DT [] 100000 (dd + 5) 62) := by
      rw [DE62]
      exact mark_ok (j := 6) (mode := 0) (j' := 9) (xIs (dd + 1)) (xPNum dd) (xWant dd) (t0 := (6, [91], a6)) (t2 := (6, [93], a8)) (t3 := (5, [78, 85, 76, 76], a9)) (w := w) rfl (stB_of (by decide +kernel)) rfl hok hv'.1 hv'.2 rfl (stB_of (by decide +kernel)) rfl (.inr ⟨stB_of (by decide +kernel), .inr ⟨rfl, rfl, stB_of (by decide +kernel)⟩⟩)
    exact xMod dd hMark (fun _ => ⟨rfl, rfl, (5, [78, 85, 76, 76], a9), rfl, rfl, stB_of (by decide +kernel), stB_of (by decide +kernel)⟩) ⟨⟨(1, [77], a0), rfl, rfl⟩, ⟨(5, [68, 69, 70, 73, 78, 73, 84, 73, 79, 78, 83], a1), rfl, stB_of (by decide +kernel)⟩, ⟨(6, [58, 58, 61], a2), rfl, stB_of (by decide +kernel), stB_of (by decide +kernel), stB_of (by decide +kernel), stB_of (by decide +kernel)⟩, ⟨(5, [66, 69, 71, 73, 78], a3), rfl, stB_of (by decide +kernel)⟩, ⟨(1, [65], a4), rfl, rfl⟩, fun _ => ⟨(5, [69, 78, 68], a10), (0, [], a11), rfl, rfl, stB_of (by decide +kernel), rfl, rfl, rfl, rfl⟩⟩ ⟨(6, [58, 58, 61], a5), rfl, stB_of (by decide +kernel)⟩ ⟨(6, [91], a6), rfl, stB_of (by decide +kernel), rfl⟩
theorem mods1 {v : Int} {w : List Nat} (hok : NumOk w v) (dd : Nat) (a0 a1 a2 a3 a4 a5 a6 a8 a9 a10 a11 a12 : Nat) : SpMod [(1, [77], a0), (5, [68, 69, 70, 73, 78, 73, 84, 73, 79, 78, 83], a1), (6, [58, 58, 61], a2), (5, [66, 69, 71, 73, 78], a3), (1, [65], a4), (6, [58, 58, 61], a5), (6, [91], a6), (3, w, 31), (6, [93], a8), (5, [69, 88, 80, 76, 73, 67, 73, 84], a9), (5, [78, 85, 76, 76], a10), (5, [69, 78, 68], a11), (0, [], a12)] (markR v 1) (DT [] 100000 (dd + 9) 12) := by
  cases hin : inT v with
  | false =>
    have hv' : v < 0 ∨ 268435456 < v := by
      unfold inT at hin
      rw [Bool.and_eq_false_iff] at hin
      simp only [decide_eq_false_iff_not] at hin; omega
    have hr : markR v 1 = ⟨false, v, 0, 8, 31, 12⟩ := by unfold markR; rw [hin]
    rw [hr]
    have hMark : SpMark [(1, [77], a0), (5, [68, 69, 70, 73, 78, 73, 84, 73, 79, 78, 83], a1), (6, [58, 58, 61], a2), (5, [66, 69, 71, 73, 78], a3), (1, [65], a4), (6, [58, 58, 61], a5), (6, [91], a6), (3, w, 31), (6, [93], a8), (5, [69, 88, 80, 76, 73, 67, 73, 84], a9), (5, [78, 85, 76, 76], a10), (5, [69, 78, 68], a11), (0, [], a12)] 6 ⟨false, v, 0, 8, 31, 12⟩ (DT [] 100000 (dd + 5) 62) := by
      rw [DE62]
      exact mark_bad (j := 6) (xIs (dd + 1)) (xPNum dd) (xFail (dd + 3)) (t0 := (6, [91], a6)) (w := w) rfl (stB_of (by decide +kernel)) rfl hok hv'
    exact xMod dd hMark (fun h => by cases h) ⟨⟨(1, [77], a0), rfl, rfl⟩, ⟨(5, [68, 69, 70, 73, 78, 73, 84, 73, 79, 78, 83], a1), rfl, stB_of (by decide +kernel)⟩, ⟨(6, [58, 58, 61], a2), rfl, stB_of (by decide +kernel), stB_of (by decide +kernel), stB_of (by decide +kernel), stB_of (by decide +kernel)⟩, ⟨(5, [66, 69, 71, 73, 78], a3), rfl, stB_of (by decide +kernel)⟩, ⟨(1, [65], a4), rfl, rfl⟩, fun h => by cases h⟩ ⟨(6, [58, 58, 61], a5), rfl, stB_of (by decide +kernel)⟩ ⟨(6, [91], a6), rfl, stB_of (by decide +kernel), rfl⟩
  | true =>
    have hv' : 0 ≤ v ∧ v ≤ 268435456 := by
      unfold inT at hin
      simpa only [Bool.and_eq_true, decide_eq_true_eq] using hin
    have hr : markR v 1 = ⟨true, v, 1, 10, 0, 0⟩ := by unfold markR; rw [hin]; rfl
    rw [hr]
    have hMark : SpMark [(1, [77], a0), (5, [68, 69, 70, 73, 78, 73, 84, 73, 79, 78, 83], a1), (6, [58, 58, 61], a2), (5, [66, 69, 71, 73, 78], a3), (1, [65], a4), (6, [58, 58, 61], a5), (6, [91], a6), (3, w, 31), (6, [93], a8), (5, [69, 88, 80, 76, 73, 67, 73, 84], a9), (5, [78, 85, 76, 76], a10), (5, [69, 78, 68], a11), (0, [], a12)] 6 ⟨true, v, 1, 10, 0, 0⟩ (DT [] 100000 (dd + 5) 62) := by
      rw [DE62]
      exact mark_ok (j := 6) (mode := 1) (j' := 10) (xIs (dd + 1)) (xPNum dd) (xWant dd) (t0 := (6, [91], a6)) (t2 := (6, [93], a8)) (t3 := (5, [69, 88, 80, 76, 73, 67, 73, 84], a9)) (w := w) rfl (stB_of (by decide +kernel)) rfl hok hv'.1 hv'.2 rfl (stB_of (by decide +kernel)) rfl (.inl ⟨rfl, rfl, stB_of (by decide +kernel)⟩)
    exact xMod dd hMark (fun _ => ⟨rfl, rfl, (5, [78, 85, 76, 76], a10), rfl, rfl, stB_of (by decide +kernel), stB_of (by decide +kernel)⟩) ⟨⟨(1, [77], a0), rfl, rfl⟩, ⟨(5, [68, 69, 70, 73, 78, 73, 84, 73, 79, 78, 83], a1), rfl, stB_of (by decide +kernel)⟩, ⟨(6, [58, 58, 61], a2), rfl, stB_of (by decide +kernel), stB_of (by decide +kernel), stB_of (by decide +kernel), stB_of (by decide +kernel)⟩, ⟨(5, [66, 69, 71, 73, 78], a3), rfl, stB_of (by decide +kernel)⟩, ⟨(1, [65], a4), rfl, rfl⟩, fun _ => ⟨(5, [69, 78, 68], a11), (0, [], a12), rfl, rfl, stB_of (by decide +kernel), rfl, rfl, rfl, rfl⟩⟩ ⟨(6, [58, 58, 61], a5), rfl, stB_of (by decide +kernel)⟩ ⟨(6, [91], a6), rfl, stB_of (by decide +kernel), rfl⟩
theorem mods2 {v : Int} {w : List Nat} (hok : NumOk w v) (dd : Nat) (a0 a1 a2 a3 a4 a5 a6 a8 a9 a10 a11 a12 : Nat) : SpMod [(1, [77], a0), (5, [68, 69, 70, 73, 78, 73, 84, 73, 79, 78, 83], a1), (6, [58, 58, 61], a2), (5, [66, 69, 71, 73, 78], a3), (1, [65], a4), (6, [58, 58, 61], a5), (6, [91], a6), (3, w, 31), (6, [93], a8), (5, [73, 77, 80, 76, 73, 67, 73, 84], a9), (5, [78, 85, 76, 76], a10), (5, [69, 78, 68], a11), (0, [], a12)] (markR v 2) (DT [] 100000 (dd + 9) 12) := by
  cases hin : inT v with
  | false =>
    have hv' : v < 0 ∨ 268435456 < v := by
      unfold inT at hin
      rw [Bool.and_eq_false_iff] at hin
      simp only [decide_eq_false_iff_not] at hin; omega
    have hr : markR v 2 = ⟨false, v, 0, 8, 31, 12⟩ := by unfold markR; rw [hin]
    rw [hr]
    have hMark : SpMark [(1, [77], a0), (5, [68, 69, 70, 73, 78, 73, 84, 73, 79, 78, 83], a1), (6, [58, 58, 61], a2), (5, [66, 69, 71, 73, 78], a3), (1, [65], a4), (6, [58, 58, 61], a5), (6, [91], a6), (3, w, 31), (6, [93], a8), (5, [73, 77, 80, 76, 73, 67, 73, 84], a9), (5, [78, 85, 76, 76], a10), (5, [69, 78, 68], a11), (0, [], a12)] 6 ⟨false, v, 0, 8, 31, 12⟩ (DT [] 100000 (dd + 5) 62) := by
      rw [DE62]
      exact mark_bad (j := 6) (xIs (dd + 1)) (xPNum dd) (xFail (dd + 3)) (t0 := (6, [91], a6)) (w := w) rfl (stB_of (by decide +kernel)) rfl hok hv'
    exact xMod dd hMark (fun h => by cases h) ⟨⟨(1, [77], a0), rfl, rfl⟩, ⟨(5, [68, 69, 70, 73, 78, 73, 84, 73, 79, 78, 83], a1), rfl, stB_of (by decide +kernel)⟩, ⟨(6, [58, 58, 61], a2), rfl, stB_of (by decide +kernel), stB_of (by decide +kernel), stB_of (by decide +kernel), stB_of (by decide +kernel)⟩, ⟨(5, [66, 69, 71, 73, 78], a3), rfl, stB_of (by decide +kernel)⟩, ⟨(1, [65], a4), rfl, rfl⟩, fun h => by cases h⟩ ⟨(6, [58, 58, 61], a5), rfl, stB_of (by decide +kernel)⟩ ⟨(6, [91], a6), rfl, stB_of (by decide +kernel), rfl⟩
  | true =>
    have hv' : 0 ≤ v ∧ v ≤ 268435456 := by
      unfold inT at hin
      simpa only [Bool.and_eq_true, decide_eq_true_eq] using hin
    have hr : markR v 2 = ⟨true, v, 2, 10, 0, 0⟩ := by unfold markR; rw [hin]; rfl
    rw [hr]
    have hMark : SpMark [(1, [77], a0), (5, [68, 69, 70, 73, 78, 73, 84, 73, 79, 78, 83], a1), (6, [58, 58, 61], a2), (5, [66, 69, 71, 73, 78], a3), (1, [65], a4), (6, [58, 58, 61], a5), (6, [91], a6), (3, w, 31), (6, [93], a8), (5, [73, 77, 80, 76, 73, 67, 73, 84], a9), (5, [78, 85, 76, 76], a10), (5, [69, 78, 68], a11), (0, [], a12)] 6 ⟨true, v, 2, 10, 0, 0⟩ (DT [] 100000 (dd + 5) 62) := by
      rw [DE62]
      exact mark_ok (j := 6) (mode := 2) (j' := 10) (xIs (dd + 1)) (xPNum dd) (xWant dd) (t0 := (6, [91], a6)) (t2 := (6, [93], a8)) (t3 := (5, [73, 77, 80, 76, 73, 67, 73, 84], a9)) (w := w) rfl (stB_of (by decide +kernel)) rfl hok hv'.1 hv'.2 rfl (stB_of (by decide +kernel)) rfl (.inr ⟨stB_of (by decide +kernel), .inl ⟨rfl, rfl, stB_of (by decide +kernel)⟩⟩)
    exact xMod dd hMark (fun _ => ⟨rfl, rfl, (5, [78, 85, 76, 76], a10), rfl, rfl, stB_of (by decide +kernel), stB_of (by decide +kernel)⟩) ⟨⟨(1, [77], a0), rfl, rfl⟩, ⟨(5, [68, 69, 70, 73, 78, 73, 84, 73, 79, 78, 83], a1), rfl, stB_of (by decide +kernel)⟩, ⟨(6, [58, 58, 61], a2), rfl, stB_of (by decide +kernel), stB_of (by decide +kernel), stB_of (by decide +kernel), stB_of (by decide +kernel)⟩, ⟨(5, [66, 69, 71, 73, 78], a3), rfl, stB_of (by decide +kernel)⟩, ⟨(1, [65], a4), rfl, rfl⟩, fun _ => ⟨(5, [69, 78, 68], a11), (0, [], a12), rfl, rfl, stB_of (by decide +kernel), rfl, rfl, rfl, rfl⟩⟩ ⟨(6, [58, 58, 61], a5), rfl, stB_of (by decide +kernel)⟩ ⟨(6, [91], a6), rfl, stB_of (by decide +kernel), rfl⟩
theorem modsAll {v : Int} (hok : NumOk (numC v) v) {m : Nat} (hm : m < 3) (dd L : Nat) (ha : L - (numC v ++ sufT m).length = 31) : SpMod (textTs L (numC v) m ++ [(0, [], L)]) (markR v m) (DT [] 100000 (dd + 9) 12) := by
  match m, hm with
  | 0, _ =>
    have e : textTs L (numC v) 0 ++ [(0, [], L)] = [(1, [77], _), (5, [68, 69, 70, 73, 78, 73, 84, 73, 79, 78, 83], _), (6, [58, 58, 61], _), (5, [66, 69, 71, 73, 78], _), (1, [65], _), (6, [58, 58, 61], _), (6, [91], _), (3, numC v, L - (numC v ++ sufT 0).length), (6, [93], _), (5, [78, 85, 76, 76], _), (5, [69, 78, 68], _), (0, [], L)] := rfl
    rw [e, ha]; exact mods0 hok dd _ _ _ _ _ _ _ _ _ _ _
  | 1, _ =>
    have e : textTs L (numC v) 1 ++ [(0, [], L)] = [(1, [77], _), (5, [68, 69, 70, 73, 78, 73, 84, 73, 79, 78, 83], _), (6, [58, 58, 61], _), (5, [66, 69, 71, 73, 78], _), (1, [65], _), (6, [58, 58, 61], _), (6, [91], _), (3, numC v, L - (numC v ++ sufT 1).length), (6, [93], _), (5, [69, 88, 80, 76, 73, 67, 73, 84], _), (5, [78, 85, 76, 76], _), (5, [69, 78, 68], _), (0, [], L)] := rfl
    rw [e, ha]; exact mods1 hok dd _ _ _ _ _ _ _ _ _ _ _ _
  | 2, _ =>
    have e : textTs L (numC v) 2 ++ [(0, [], L)] = [(1, [77], _), (5, [68, 69, 70, 73, 78, 73, 84, 73, 79, 78, 83], _), (6, [58, 58, 61], _), (5, [66, 69, 71, 73, 78], _), (1, [65], _), (6, [58, 58, 61], _), (6, [91], _), (3, numC v, L - (numC v ++ sufT 2).length), (6, [93], _), (5, [73, 77, 80, 76, 73, 67, 73, 84], _), (5, [78, 85, 76, 76], _), (5, [69, 78, 68], _), (0, [], L)] := rfl
    rw [e, ha]; exact mods2 hok dd _ _ _ _ _ _ _ _ _ _ _ _
theorem parse_text {v : Int} (hv : In64 v) {m : Nat} (hm : m < 3) (dd : Nat) (σ : H) (ht : Tidy σ) : ∃ σ' a b c d e pv ev, DT [] 100000 (dd + 10) 7 [.str (ofN (textT (numC v) m))] σ = some (.tup [.agg [a, b, c, d, e], .int .i64 pv, .int .i64 ev], σ') ∧
    QQ v m σ' a b c d e pv ev ∧ allOne [a, b, c, d, e] = true ∧ Fr Nowhere σ σ' := by
  obtain ⟨hok, hl, _⟩ := numC_ok hv
  have hbd := text_bd hv m
  have hlen : (ofN (textT (numC v) m)).len = (textT (numC v) m).length := ofN_len _
  have htl := text_len (numC v) m
  have hsl := suf_len m
  have hnl : (numC v ++ sufT m).length ≤ 41 := by rw [List.length_append]; omega
  have hMod := modsAll hok hm dd (ofN (textT (numC v) m)).len (by omega)
  have htk := toks_text hv m hm (ofN (textT (numC v) m)).len
  have hn : (ofN (textT (numC v) m)).nats = textT (numC v) m := ofN_nats hbd
  obtain ⟨σ', u, g1, g2, g3⟩ := parse_F (N := 100000) (s := ofN (textT (numC v) m)) (xTokens (dd + 3)) hMod (by omega) (by rw [hn]; exact htk) ht
  rw [DE7]
  unfold ParseR at g2
  unfold markR at g2
  unfold QQ
  cases hin : inT v with
  | true =>
    rw [hin] at g2
    simp only [] at g2
    obtain ⟨nm, n', t', nb, rfl, hat, h1, h2⟩ := g2
    refine ⟨σ', _, _, _, _, _, _, _, g1, ⟨rfl, rfl, nb, rfl, hat⟩, ?_, g3⟩
    simp only [allOne, h1, h2]; rfl
  | false =>
    rw [hin] at g2
    simp only [] at g2
    subst g2
    exact ⟨σ', _, _, _, _, _, _, _, g1, ⟨rfl, rfl, rfl⟩, rfl, g3⟩
end
end Go.Proofs.YtjolbidcficdhaaDoor
