/- SyntaxBounds: what the law answers. -/
import Derived.Test.YtjolbidcficdhaaDoorBy2
import Derived.Test.YtjolbidcficdhaaDoorMm
set_option linter.all false
set_option maxRecDepth 100000
set_option maxHeartbeats 1000000
namespace Go.Proofs.YtjolbidcficdhaaDoor
open Go Go.Og
noncomputable section
theorem hd1 (D : Den) (W : DrawFn) (N : Nat) (u v fo : Int) (m : Bool) (σ : H) : F4 [] D W N [.int .i64 u, .int .i64 v, .int .i64 fo, .bool m] σ = J4_0 [] D W N u v fo m σ := by
  unfold F4
  rw [rtCons_cons, rtInt_int, rtCons_cons, rtInt_int, rtCons_cons, rtInt_int, rtCons_cons, rtBool_bool, rtNil_nil]
theorem rem5 (a : Int) : ∃ k, k < 5 ∧ wrapF .i64 (Int.tmod (wrapF .u64 a) (Int.ofNat 5)) = Int.ofNat k := by
  rw [wrapF_eq .u64]
  have h : ∃ m : Nat, IntKind.wrap .u64 a = Int.ofNat m := by
    have : 0 ≤ IntKind.wrap .u64 a := by
      unfold IntKind.wrap; simp only [IntKind.signed, IntKind.bits]; simp; omega
    exact ⟨_, (Int.toNat_of_nonneg this).symm⟩
  obtain ⟨m, hm⟩ := h
  rw [hm]
  have h2 : Int.tmod (Int.ofNat m) (Int.ofNat 5) = Int.ofNat (m % 5) := rfl
  have h3 : m % 5 < 5 := Nat.mod_lt _ (by decide)
  rw [h2]
  exact ⟨m % 5, h3, wrapF_nat (k := .i64) (show m % 5 ≤ 9223372036854775807 by omega)⟩
theorem conF0 (D : Den) (W : DrawFn) (u v : Int) (m : Bool) (t : BS) (σ : H) : J4_1 [] D W 100000 u v (Int.ofNat 0) m t σ = J4_5 [] D W 100000 m t true (fHl 0) (fHh 0) m (fLo 0 u) (fHi 0 u v) σ := by kernel_rfl
theorem conF1 (D : Den) (W : DrawFn) (u v : Int) (m : Bool) (t : BS) (σ : H) : J4_1 [] D W 100000 u v (Int.ofNat 1) m t σ = J4_5 [] D W 100000 m t true (fHl 1) (fHh 1) m (fLo 1 u) (fHi 1 u v) σ := by kernel_rfl
theorem conF2 (D : Den) (W : DrawFn) (u v : Int) (m : Bool) (t : BS) (σ : H) : J4_1 [] D W 100000 u v (Int.ofNat 2) m t σ = J4_5 [] D W 100000 m t true (fHl 2) (fHh 2) m (fLo 2 u) (fHi 2 u v) σ := by kernel_rfl
theorem conF3 (D : Den) (W : DrawFn) (u v : Int) (m : Bool) (t : BS) (σ : H) : J4_1 [] D W 100000 u v (Int.ofNat 3) m t σ = J4_5 [] D W 100000 m t true (fHl 3) (fHh 3) m (fLo 3 u) (fHi 3 u v) σ := by kernel_rfl
theorem conF4 (D : Den) (W : DrawFn) (u v : Int) (m : Bool) (t : BS) (σ : H) : J4_1 [] D W 100000 u v (Int.ofNat 4) m t σ = J4_5 [] D W 100000 m t true (fHl 4) (fHh 4) m (fLo 4 u) (fHi 4 u v) σ := by kernel_rfl
theorem conF (D : Den) (W : DrawFn) (u v : Int) (m : Bool) (t : BS) (σ : H) {f : Nat} (hf : f < 5) :
    J4_1 [] D W 100000 u v (Int.ofNat f) m t σ = J4_5 [] D W 100000 m t true (fHl f) (fHh f) m (fLo f u) (fHi f u v) σ := by
  match f, hf with
  | 0, _ => exact conF0 D W u v m t σ
  | 1, _ => exact conF1 D W u v m t σ
  | 2, _ => exact conF2 D W u v m t σ
  | 3, _ => exact conF3 D W u v m t σ
  | 4, _ => exact conF4 D W u v m t σ
theorem eqCon (a b c d : Bool) (u v : Int) (κ : Bool → Ans) : eqK (.flat [(0, .bool), (1, .bool), (2, .bool), (3, .bool), (4, .int), (5, .int)]) (.agg [.bool a, .bool b, .bool c, .bool d, .int .i64 u, .int .i64 v]) (.agg [.bool a, .bool b, .bool c, .bool d, .int .i64 u, .int .i64 v]) κ = κ true := by
  have h : eqTag (.flat [(0, .bool), (1, .bool), (2, .bool), (3, .bool), (4, .int), (5, .int)]) (.agg [.bool a, .bool b, .bool c, .bool d, .int .i64 u, .int .i64 v]) (.agg [.bool a, .bool b, .bool c, .bool d, .int .i64 u, .int .i64 v]) = some true := by
    show eqFlat [(0, .bool), (1, .bool), (2, .bool), (3, .bool), (4, .int), (5, .int)] [.bool a, .bool b, .bool c, .bool d, .int .i64 u, .int .i64 v] [.bool a, .bool b, .bool c, .bool d, .int .i64 u, .int .i64 v] = some true
    cases a <;> cases b <;> cases c <;> cases d <;> (simp only [eqFlat, cellAt, eqCell, if_true, eqF_self]; rfl)
  unfold eqK; rw [h]
theorem formT_app (f : Nat) (m : Bool) (w1 w2 s : List Nat) : formT f w1 w2 (moreT m s) = formT f w1 w2 (moreT m []) ++ s := by
  unfold formT moreT
  cases m <;> match f with
  | 0 => simp
  | 1 => simp
  | 2 => simp
  | 3 => simp
  | _ + 4 => simp
def FT (f : Nat) (m : Bool) (w1 w2 : List Nat) : List Nat := formT f w1 w2 (moreT m [])
theorem typT_int (f : Nat) (m : Bool) (w1 w2 : List Nat) : [73, 78, 84, 69, 71, 69, 82, 32, 40] ++ FT f m w1 w2 ++ [41] = typT 0 f m w1 w2 [] := by
  unfold FT typT; simp only []; rw [formT_app f m w1 w2 [41]]; simp
theorem typT_oct (f : Nat) (m : Bool) (w1 w2 : List Nat) : [79, 67, 84, 69, 84, 32, 83, 84, 82, 73, 78, 71, 32, 40, 83, 73, 90, 69, 32, 40] ++ FT f m w1 w2 ++ [41, 41] = typT 1 f m w1 w2 [] := by
  unfold FT typT; simp only []; rw [formT_app f m w1 w2 [41, 41]]; simp
theorem typT_seq (f : Nat) (m : Bool) (w1 w2 : List Nat) : [83, 69, 81, 85, 69, 78, 67, 69, 32, 40, 83, 73, 90, 69, 32, 40] ++ FT f m w1 w2 ++ [41, 41, 32, 79, 70, 32, 78, 85, 76, 76] = typT 2 f m w1 w2 [] := by
  unfold FT typT; simp only []; rw [formT_app f m w1 w2 [41, 41, 32, 79, 70, 32, 78, 85, 76, 76]]; simp
theorem typT_app (q f : Nat) (m : Bool) (w1 w2 s : List Nat) : typT q f m w1 w2 s = typT q f m w1 w2 [] ++ s := by
  unfold typT
  match q with
  | 0 => simp only []; rw [formT_app f m w1 w2 (41 :: s), formT_app f m w1 w2 (41 :: [])]; simp
  | 1 => simp only []; rw [formT_app f m w1 w2 (41 :: 41 :: s), formT_app f m w1 w2 (41 :: 41 :: [])]; simp
  | _ + 2 => simp only []; rw [formT_app f m w1 w2 (41 :: 41 :: 32 :: 79 :: 70 :: 32 :: 78 :: 85 :: 76 :: 76 :: s), formT_app f m w1 w2 (41 :: 41 :: 32 :: 79 :: 70 :: 32 :: 78 :: 85 :: 76 :: 76 :: [])]; simp
theorem bd_app {a b : List Nat} (ha : ∀ c ∈ a, c < 256) (hb : ∀ c ∈ b, c < 256) : ∀ c ∈ a ++ b, c < 256 := fun c hc => by
  rcases List.mem_append.1 hc with h | h
  · exact ha c h
  · exact hb c h
theorem formT_ok {w1 w2 s : List Nat} (b1 : ∀ c ∈ w1, c < 256) (b2 : ∀ c ∈ w2, c < 256) (l1 : w1.length ≤ 21) (l2 : w2.length ≤ 21) {f : Nat} (hf : f < 5) (h1 : ∀ c ∈ s, c < 256) (h2 : s.length ≤ 5) : (∀ c ∈ formT f w1 w2 s, c < 256) ∧ (formT f w1 w2 s).length ≤ 60 := by
  unfold formT
  match f, hf with
  | 0, _ => exact ⟨bd_app b1 (bd_app (a := [46, 46]) (by decide) (bd_app b2 h1)), by simp; omega⟩
  | 1, _ => exact ⟨bd_app b1 h1, by simp; omega⟩
  | 2, _ => exact ⟨bd_app b1 (bd_app (a := [46, 46, 77, 65, 88]) (by decide) h1), by simp; omega⟩
  | 3, _ => exact ⟨bd_app (a := [77, 73, 78, 46, 46]) (by decide) (bd_app b2 h1), by simp; omega⟩
  | 4, _ => exact ⟨bd_app (a := [77, 73, 78, 46, 46, 77, 65, 88]) (by decide) h1, by simp; omega⟩
theorem FT_ok {w1 w2 : List Nat} (b1 : ∀ c ∈ w1, c < 256) (b2 : ∀ c ∈ w2, c < 256) (l1 : w1.length ≤ 21) (l2 : w2.length ≤ 21) {f : Nat} (hf : f < 5) (m : Bool) : (∀ c ∈ FT f m w1 w2, c < 256) ∧ (FT f m w1 w2).length ≤ 60 := by
  unfold FT
  cases m with
  | true => exact formT_ok b1 b2 l1 l2 hf (s := [44, 32, 46, 46, 46]) (by decide) (by decide)
  | false => exact formT_ok b1 b2 l1 l2 hf (s := []) (by decide) (by decide)
theorem numC_bd {v : Int} (hv : In64 v) : (∀ c ∈ numC v, c < 256) ∧ (numC v).length ≤ 21 := by
  obtain ⟨hok, hlen, _⟩ := numC_ok hv
  obtain ⟨neg, ds, hwd, hds, hne, _⟩ := hok.ex
  refine ⟨fun x hx => ?_, hlen⟩
  rw [hwd] at hx
  cases neg with
  | true =>
    rcases List.mem_cons.1 hx with rfl | hx
    · omega
    · exact hds.bd x hx
  | false => exact hds.bd x hx
/-- The list of the five forms. -/
def five (w1 w2 : List Nat) : List V := [.str (ofN (w1 ++ [46, 46] ++ w2)), .str (ofN w1), .str (ofN (w1 ++ [46, 46, 77, 65, 88])), .str (ofN ([77, 73, 78, 46, 46] ++ w2)), .str (ofN [77, 73, 78, 46, 46, 77, 65, 88])]
theorem five_get (w1 w2 : List Nat) {f : Nat} (hf : f < 5) : nthF (five w1 w2) f = some (.str (ofN (formT f w1 w2 []))) := by
  match f, hf with
  | 0, _ => show some (V.str (ofN (w1 ++ [46, 46] ++ w2))) = _; unfold formT; simp
  | 1, _ => show some (V.str (ofN w1)) = _; unfold formT; simp
  | 2, _ => rfl
  | 3, _ => show some (V.str (ofN ([77, 73, 78, 46, 46] ++ w2))) = _; unfold formT; simp
  | 4, _ => rfl
theorem DL_of {f : Nat} (h : Nat.beq f 6 = false) : DL f = DT [] 100000 60 f := by unfold DL known; rw [h]
theorem DLn : DL 9 = DT [] 100000 (39 + 21) 9 := DL_of rfl
theorem DLm : DL 10 = DT [] 100000 (59 + 1) 10 := DL_of rfl
theorem DLp : DL 7 = DT [] 100000 (48 + 12) 7 := DL_of rfl
theorem DLa (σ : H) : DL 6 [] σ = some (.bool true, σ) := rfl
theorem lawB {u v : Int} (hu : In64 u) (hv : In64 v) (fo : Int) (m : Bool) : okB (F4 [] DL (drawW [] DL) 100000 [.int .i64 u, .int .i64 v, .int .i64 fo, .bool m] ⟨100, []⟩) = true := by
  obtain ⟨f, hf, hfo⟩ := rem5 fo
  obtain ⟨bu, lu⟩ := numC_bd hu
  obtain ⟨bv, lv⟩ := numC_bd hv
  have hN : SpNumber (DL 9) := by rw [DLn]; exact xNumber 39
  have hL : SpLmod (DL 10) := by rw [DLm]; exact xLmod 59
  have aw := DLa
  have head : F4 [] DL (drawW [] DL) 100000 [.int .i64 u, .int .i64 v, .int .i64 fo, .bool m] ⟨100, []⟩ = J4_0 [] DL (drawW [] DL) 100000 u v fo m ⟨100, []⟩ := by
    exact hd1 _ _ _ _ _ _ _ _
  obtain ⟨σ1, g1, f1⟩ := hN ⟨100, []⟩ u tidy0 hu
  obtain ⟨σ2, g2, f2⟩ := hN σ1 v f1.tidy hv
  obtain ⟨σ3, g3, f3⟩ := hN σ2 u f2.tidy hu
  obtain ⟨σ4, g4, f4⟩ := hN σ3 u f3.tidy hu
  obtain ⟨σ5, g5, f5⟩ := hN σ4 v f4.tidy hv
  obtain ⟨σ6, e6, f6, a6, n6⟩ := mk_new f5.tidy (five (numC u) (numC v))
  have b46 : ∀ c ∈ numC u ++ [46, 46], c < 256 := fun c hc => by
    rcases List.mem_append.1 hc with h | h
    · exact bu c h
    · simp at h; omega
  have s0 : J4_0 [] DL (drawW [] DL) 100000 u v fo m ⟨100, []⟩ = J4_1 [] DL (drawW [] DL) 100000 u v (Int.ofNat f) m (ofN (formT f (numC u) (numC v) [])) σ6 := by
    show T4_0 [] DL (drawW [] DL) (J4_1 [] DL (drawW [] DL) 100000) u v fo m ⟨100, []⟩ = _
    unfold T4_0
    rw [show (BS.mk 2 11822) = ofN [46, 46] from by decide +kernel, show (BS.mk 5 379052699182) = ofN [46, 46, 77, 65, 88] from by decide +kernel, show (BS.mk 5 198345378125) = ofN [77, 73, 78, 46, 46] from by decide +kernel, show (BS.mk 8 6359449009564567885) = ofN [77, 73, 78, 46, 46, 77, 65, 88] from by decide +kernel]
    simp only [g1, g2, g3, g4, g5, callK_some_, rtStr_str]
    rw [catK_ofN bu (by decide) (by simp; omega), catK_ofN b46 bv (by simp; omega), catK_ofN bu (by decide) (by simp; omega), catK_ofN (by decide) bv (by simp; omega)]
    rw [hfo, iaddrSK_lt hf]
    have e6' : newB σ5 (.cells [.str (ofN (numC u ++ [46, 46] ++ numC v)), .str (ofN (numC u)), .str (ofN (numC u ++ [46, 46, 77, 65, 88])), .str (ofN ([77, 73, 78, 46, 46] ++ numC v)), .str (ofN [77, 73, 78, 46, 46, 77, 65, 88])]) = σ6 := e6
    rw [e6', ldK_at a6 (v := .str (ofN (formT f (numC u) (numC v) []))) (by show nthF _ (0 + f * 1) = _; rw [Nat.zero_add, Nat.mul_one]; exact five_get _ _ hf), rtStr_str]
  obtain ⟨bt, lt⟩ := FT_ok bu bv lu lv hf m
  obtain ⟨bt0, lt0⟩ := FT_ok bu bv lu lv hf false
  have s5 : J4_5 [] DL (drawW [] DL) 100000 m (ofN (formT f (numC u) (numC v) [])) true (fHl f) (fHh f) m (fLo f u) (fHi f u v) σ6 = J4_6 [] DL (drawW [] DL) 100000 (ofN (FT f m (numC u) (numC v))) true (fHl f) (fHh f) m (fLo f u) (fHi f u v) σ6 := by
    show T4_5 [] DL (drawW [] DL) (J4_6 [] DL (drawW [] DL) 100000) m (ofN (formT f (numC u) (numC v) [])) true (fHl f) (fHh f) m (fLo f u) (fHi f u v) σ6 = _
    unfold T4_5
    cases m with
    | false => rfl
    | true =>
      have bt1 : ∀ c ∈ formT f (numC u) (numC v) [], c < 256 := bt0
      have lt1 : (formT f (numC u) (numC v) []).length ≤ 60 := lt0
      rw [condK_true, show (BS.mk 5 198343270444) = ofN [44, 32, 46, 46, 46] from by decide +kernel, catK_ofN bt1 (by decide) (by simp only [List.length_cons, List.length_nil]; omega)]
      have : FT f true (numC u) (numC v) = formT f (numC u) (numC v) [] ++ [44, 32, 46, 46, 46] := formT_app f false (numC u) (numC v) [44, 32, 46, 46, 46]
      rw [this]
  have mods : ∀ (q : Nat) (hq : q < 3) (σ : H), Tidy σ → DL 10 [.str (ofN (typT q f m (numC u) (numC v) []))] σ = some (.str (ofN (textB q f m (numC u) (numC v))), σ) ∧
      ∃ σ' nm n' t' nb, DL 7 [.str (ofN (textB q f m (numC u) (numC v)))] σ = some (.tup [.agg [.str nm, .int .i64 (Int.ofNat 0), n', t', .sl nb 0 (typN q) (.op 16)], .int .i64 (Int.ofNat 0), .int .i64 (Int.ofNat 0)], σ') ∧ Atc σ' nb (typL q f m u v) ∧ n'.one = true ∧ t'.one = true ∧ Fr Nowhere σ σ' := by
    intro q hq σ ht
    have hb : (∀ c ∈ typT q f m (numC u) (numC v) [], c < 256) ∧ (typT q f m (numC u) (numC v) []).length ≤ 100 := by
      match q, hq with
      | 0, _ =>
        rw [← typT_int]
        exact ⟨bd_app (bd_app (by decide) bt) (by decide), by simp only [List.length_append, List.length_cons, List.length_nil]; omega⟩
      | 1, _ =>
        rw [← typT_oct]
        exact ⟨bd_app (bd_app (by decide) bt) (by decide), by simp only [List.length_append, List.length_cons, List.length_nil]; omega⟩
      | 2, _ =>
        rw [← typT_seq]
        exact ⟨bd_app (bd_app (by decide) bt) (by decide), by simp only [List.length_append, List.length_cons, List.length_nil]; omega⟩
    have ht1 : textB q f m (numC u) (numC v) = preT ++ typT q f m (numC u) (numC v) [] ++ [32, 69, 78, 68] := by
      unfold textB; rw [typT_app q f m _ _ [32, 69, 78, 68]]; simp
    refine ⟨?_, ?_⟩
    · rw [hL σ _ hb.1 (by omega), ht1]
    · rw [DLp]
      refine parseB hu hv hf hq m 48 (ofN_nats ?_) ?_ ht
      · rw [ht1]
        exact bd_app (bd_app preT_bd hb.1) (by decide)
      · rw [ofN_len, ht1]
        have : preT.length = 30 := rfl
        simp; omega
  obtain ⟨l7, σ7, nm7, n7, t7, nb7, p7, c7, o7, o7', f7⟩ := mods 0 (by omega) σ6 f6.tidy
  obtain ⟨l8, σ8, nm8, n8, t8, nb8, p8, c8, o8, o8', f8⟩ := mods 1 (by omega) σ7 f7.tidy
  obtain ⟨l9, σ9, nm9, n9, t9, nb9, p9, c9, o9, o9', f9⟩ := mods 2 (by omega) σ8 f8.tidy
  rw [show typN 0 = 1 from rfl] at p7
  rw [show typN 1 = 1 from rfl] at p8
  rw [show typN 2 = 2 from rfl] at p9
  rw [head, s0, conF _ _ _ _ _ _ _ hf, s5]
  have al : ∀ (a : BS) (b : Int) (x y : V) (n k : Nat), x.one = true → y.one = true → allOne [.str a, .int .i64 b, x, y, .sl n 0 k (.op 16)] = true := fun a b x y n k h1 h2 => by simp only [allOne, h1, h2]; rfl
  have s6 : J4_6 [] DL (drawW [] DL) 100000 (ofN (FT f m (numC u) (numC v))) true (fHl f) (fHh f) m (fLo f u) (fHi f u v) σ6 = J4_7 [] DL (drawW [] DL) 100000 (ofN (FT f m (numC u) (numC v))) (Int.ofNat 0) true (fHl f) (fHh f) m (fLo f u) (fHi f u v) nm7 (Int.ofNat 0) n7 t7 (.sl nb7 0 1 (.op 16)) σ7 := by
    show T4_6 [] DL (drawW [] DL) (J4_7 [] DL (drawW [] DL) 100000) (ofN (FT f m (numC u) (numC v))) true (fHl f) (fHh f) m (fLo f u) (fHi f u v) σ6 = _
    unfold T4_6
    rw [show (BS.mk 9 740198763078094179913) = ofN [73, 78, 84, 69, 71, 69, 82, 32, 40] from by decide +kernel, show (BS.mk 1 41) = ofN [41] from by decide +kernel, catK_ofN (by decide) bt (by simp only [List.length_append, List.length_cons, List.length_nil]; omega), catK_ofN (bd_app (by decide) bt) (by decide) (by simp only [List.length_append, List.length_cons, List.length_nil]; omega), typT_int]
    rw [l7, callK_some_, rtStr_str, p7, callK_some_, rtTup_tup, rtCons_cons, rtAgg_agg, rtCons_cons, rtStr_str, rtCons_cons, rtInt_int, rtCons_cons, rtCons_cons, rtCons_cons, rtNil_nil, rtCons_cons, rtInt_int, rtCons_cons, rtInt_int, rtNil_nil]
    rw [chk_true (al _ _ _ _ _ _ o7 o7')]
  have s7 : J4_7 [] DL (drawW [] DL) 100000 (ofN (FT f m (numC u) (numC v))) (Int.ofNat 0) true (fHl f) (fHh f) m (fLo f u) (fHi f u v) nm7 (Int.ofNat 0) n7 t7 (.sl nb7 0 1 (.op 16)) σ7 = J4_8 [] DL (drawW [] DL) 100000 (ofN (FT f m (numC u) (numC v))) (Int.ofNat 0) (Int.ofNat 0) true (fHl f) (fHh f) m (fLo f u) (fHi f u v) nm7 (Int.ofNat 0) n7 t7 (.sl nb7 0 1 (.op 16)) nm8 (Int.ofNat 0) n8 t8 (.sl nb8 0 1 (.op 16)) σ8 := by
    show T4_7 [] DL (drawW [] DL) (J4_8 [] DL (drawW [] DL) 100000) (ofN (FT f m (numC u) (numC v))) (Int.ofNat 0) true (fHl f) (fHh f) m (fLo f u) (fHi f u v) nm7 (Int.ofNat 0) n7 t7 (.sl nb7 0 1 (.op 16)) σ7 = _
    unfold T4_7
    rw [show (BS.mk 20 229079296149914293436645900950553960833441088335) = ofN [79, 67, 84, 69, 84, 32, 83, 84, 82, 73, 78, 71, 32, 40, 83, 73, 90, 69, 32, 40] from by decide +kernel, show (BS.mk 2 10537) = ofN [41, 41] from by decide +kernel, catK_ofN (by decide) bt (by simp only [List.length_append, List.length_cons, List.length_nil]; omega), catK_ofN (bd_app (by decide) bt) (by decide) (by simp only [List.length_append, List.length_cons, List.length_nil]; omega), typT_oct]
    rw [l8, callK_some_, rtStr_str, p8, callK_some_, rtTup_tup, rtCons_cons, rtAgg_agg, rtCons_cons, rtStr_str, rtCons_cons, rtInt_int, rtCons_cons, rtCons_cons, rtCons_cons, rtNil_nil, rtCons_cons, rtInt_int, rtCons_cons, rtInt_int, rtNil_nil]
    rw [chk_true (al _ _ _ _ _ _ o8 o8')]
  have s8 : J4_8 [] DL (drawW [] DL) 100000 (ofN (FT f m (numC u) (numC v))) (Int.ofNat 0) (Int.ofNat 0) true (fHl f) (fHh f) m (fLo f u) (fHi f u v) nm7 (Int.ofNat 0) n7 t7 (.sl nb7 0 1 (.op 16)) nm8 (Int.ofNat 0) n8 t8 (.sl nb8 0 1 (.op 16)) σ8 = J4_9 [] DL (drawW [] DL) 100000 (Int.ofNat 0) (Int.ofNat 0) (Int.ofNat 0) true (fHl f) (fHh f) m (fLo f u) (fHi f u v) nm7 (Int.ofNat 0) n7 t7 (.sl nb7 0 1 (.op 16)) nm8 (Int.ofNat 0) n8 t8 (.sl nb8 0 1 (.op 16)) nm9 (Int.ofNat 0) n9 t9 (.sl nb9 0 2 (.op 16)) σ9 := by
    show T4_8 [] DL (drawW [] DL) (J4_9 [] DL (drawW [] DL) 100000) (ofN (FT f m (numC u) (numC v))) (Int.ofNat 0) (Int.ofNat 0) true (fHl f) (fHh f) m (fLo f u) (fHi f u v) nm7 (Int.ofNat 0) n7 t7 (.sl nb7 0 1 (.op 16)) nm8 (Int.ofNat 0) n8 t8 (.sl nb8 0 1 (.op 16)) σ8 = _
    unfold T4_8
    rw [show (BS.mk 16 53336679970359963699247142327714661715) = ofN [83, 69, 81, 85, 69, 78, 67, 69, 32, 40, 83, 73, 90, 69, 32, 40] from by decide +kernel, show (BS.mk 10 360307952133722716776745) = ofN [41, 41, 32, 79, 70, 32, 78, 85, 76, 76] from by decide +kernel, catK_ofN (by decide) bt (by simp only [List.length_append, List.length_cons, List.length_nil]; omega), catK_ofN (bd_app (by decide) bt) (by decide) (by simp only [List.length_append, List.length_cons, List.length_nil]; omega), typT_seq]
    rw [l9, callK_some_, rtStr_str, p9, callK_some_, rtTup_tup, rtCons_cons, rtAgg_agg, rtCons_cons, rtStr_str, rtCons_cons, rtInt_int, rtCons_cons, rtCons_cons, rtCons_cons, rtNil_nil, rtCons_cons, rtInt_int, rtCons_cons, rtInt_int, rtNil_nil]
    rw [chk_true (al _ _ _ _ _ _ o9 o9')]
  rw [s6, s7, s8]
  have a7 : Atc σ9 nb7 (typL 0 f m u v) := f9.at_ (f8.at_ c7 f7.tidy (fun h => h)) f8.tidy (fun h => h)
  have a8 : Atc σ9 nb8 (typL 1 f m u v) := f9.at_ c8 f8.tidy (fun h => h)
  have k1 : eqF (Int.ofNat 0) (Int.ofNat 0) = true := rfl
  have k2 : eqF (Int.ofNat 1) (Int.ofNat 1) = true := rfl
  have k3 : eqF (Int.ofNat 2) (Int.ofNat 2) = true := rfl
  have sl1 : ∀ (nb k : Nat) (κ : Nat → Ans), slenK (.sl nb 0 k (.op 16)) κ = κ k := fun _ _ _ => rfl
  have ia : ∀ (nb k : Nat) (hk : 0 < k) (κ : Nat → Nat → Ans), iaddrSK 16 (.sl nb 0 k (.op 16)) (Int.ofNat 0) κ = κ nb (Nat.add 0 (Nat.mul 0 16)) := fun nb k hk κ => iaddrSK_lt hk
  have ldn : ∀ (nb q : Nat) (hq : q < 3) (h : Atc σ9 nb (typL q f m u v)) (κ : List V → Ans), ldnK [] σ9 nb (Nat.add (Nat.add 0 (Nat.mul 0 16)) 5) 6 κ = κ [.bool true, .bool (fHl f), .bool (fHh f), .bool m, .int .i64 (fLo f u), .int .i64 (fHi f u v)] := fun nb q hq h κ => by
    match q, hq with
    | 0, _ => rw [ldnK_at h (by show 0 + 0 * 16 + 5 + 6 ≤ 16; omega)]; rfl
    | 1, _ => rw [ldnK_at h (by show 0 + 0 * 16 + 5 + 6 ≤ 16; omega)]; rfl
    | 2, _ => rw [ldnK_at h (by show 0 + 0 * 16 + 5 + 6 ≤ 32; omega)]; rfl
  show okB (T4_9 [] DL (drawW [] DL) (J4_11 [] DL (drawW [] DL) 100000) _ _ _ _ _ _ _ _ _ _ _ _ _ _ _ _ _ _ _ _ _ _ _ _ _) = true
  unfold T4_9
  simp only [aw, callK_some_, rtBool_bool, joinB_, condK_true, k1]
  show okB (T4_11 [] DL (drawW [] DL) (J4_12 [] DL (drawW [] DL) 100000) _ _ _ _ _ _ _ _ _ _ _ _ _ _ _ _ _ _ _ _ _ _ _ _ _ _ _ _ _ _ _ _) = true
  unfold T4_11
  simp only [joinB_, condK_true, sl1, k2, ia nb7 1 (by omega), ldn nb7 0 (by omega) a7, rtCons_cons, rtBool_bool, rtInt_int, rtNil_nil, eqCon]
  show okB (T4_12 [] DL (drawW [] DL) (J4_10 [] DL (drawW [] DL) 100000) _ _ _ _ _ _ _ _ _ _ _ _ _ _ _ _ _ _ _ _ _ _ _ _ _ _ _ _ _ _ _ _ _ _ _ _ _ _) = true
  unfold T4_12
  simp only [joinB_, condK_true, sl1, k3, ia nb8 1 (by omega), ia nb9 2 (by omega), ldn nb8 1 (by omega) a8, ldn nb9 2 (by omega) c9, rtCons_cons, rtBool_bool, rtInt_int, rtNil_nil, eqCon]
  rfl
end
end Go.Proofs.YtjolbidcficdhaaDoor
