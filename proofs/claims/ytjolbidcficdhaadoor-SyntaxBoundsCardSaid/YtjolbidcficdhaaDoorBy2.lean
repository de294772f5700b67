/- The whole text, and Parse on it. -/
import Derived.Test.YtjolbidcficdhaaDoorBx
set_option linter.all false
set_option maxRecDepth 100000
namespace Go.Proofs.YtjolbidcficdhaaDoor
open Go Go.Og
noncomputable section
theorem TkS.run {len k : Nat} {r r' : List Nat} {L : List (Nat × List Nat × List Nat)} {l : List (Nat × List Nat)} (h : runC 100000 k r = some (L, r')) (ht : TkS len r' l) : TkS len r (L.map (fun q => (q.1, q.2.1)) ++ l) := by
  obtain ⟨ts, h1, rfl⟩ := ht
  refine ⟨_, runC_ok k _ _ _ _ h h1, ?_⟩
  rw [List.map_append, List.map_map]
  rfl
theorem pre_tks {len : Nat} {c : Nat} {r : List Nat} (hc : c = 73 ∨ c = 79 ∨ c = 83) {l : List (Nat × List Nat)} (h : TkS len (c :: r) l) : TkS len (preT ++ (c :: r)) (preS ++ l) := by
  rcases hc with rfl | rfl | rfl
  · exact TkS.run (k := 6) (L := [(1, [77], preT ++ (73 :: r)), (5, [68, 69, 70, 73, 78, 73, 84, 73, 79, 78, 83], preT.drop 2 ++ (73 :: r)), (6, [58, 58, 61], preT.drop 14 ++ (73 :: r)), (5, [66, 69, 71, 73, 78], preT.drop 18 ++ (73 :: r)), (1, [65], preT.drop 24 ++ (73 :: r)), (6, [58, 58, 61], preT.drop 26 ++ (73 :: r))]) (by kernel_rfl) h
  · exact TkS.run (k := 6) (L := [(1, [77], preT ++ (79 :: r)), (5, [68, 69, 70, 73, 78, 73, 84, 73, 79, 78, 83], preT.drop 2 ++ (79 :: r)), (6, [58, 58, 61], preT.drop 14 ++ (79 :: r)), (5, [66, 69, 71, 73, 78], preT.drop 18 ++ (79 :: r)), (1, [65], preT.drop 24 ++ (79 :: r)), (6, [58, 58, 61], preT.drop 26 ++ (79 :: r))]) (by kernel_rfl) h
  · exact TkS.run (k := 6) (L := [(1, [77], preT ++ (83 :: r)), (5, [68, 69, 70, 73, 78, 73, 84, 73, 79, 78, 83], preT.drop 2 ++ (83 :: r)), (6, [58, 58, 61], preT.drop 14 ++ (83 :: r)), (5, [66, 69, 71, 73, 78], preT.drop 18 ++ (83 :: r)), (1, [65], preT.drop 24 ++ (83 :: r)), (6, [58, 58, 61], preT.drop 26 ++ (83 :: r))]) (by kernel_rfl) h
theorem shape_of {ts : List Tk} {l : List (Nat × List Nat)} (h : ts.map (fun t => (t.1, t.2.1)) = l) (L : Nat) : ShapeAt (ts ++ [(0, [], L)]) 0 (l ++ [(0, [])]) := by
  intro i k w hi
  rw [Nat.zero_add]
  have e : l ++ [(0, [])] = (ts ++ [((0, [], L) : Tk)]).map (fun t => (t.1, t.2.1)) := by rw [List.map_append, h]; rfl
  rw [e, List.getElem?_map] at hi
  cases hx : (ts ++ [((0, [], L) : Tk)])[i]? with
  | none => rw [hx] at hi; cases hi
  | some t =>
    rw [hx] at hi
    simp only [Option.map_some, Option.some.injEq, Prod.mk.injEq] at hi
    obtain ⟨rfl, rfl⟩ := hi
    exact ⟨t.2.2, rfl⟩
def textB (q f : Nat) (m : Bool) (w1 w2 : List Nat) : List Nat := preT ++ typT q f m w1 w2 [32, 69, 78, 68]
theorem textB_tks {len : Nat} {u v : Int} (hu : In64 u) (hv : In64 v) {f q : Nat} (hf : f < 5) (hq : q < 3) (m : Bool) :
    TkS len (textB q f m (numC u) (numC v)) (preS ++ (typS q f m (numC u) (numC v) ++ [(5, [69, 78, 68])])) := by
  have h := typ_tks (len := len) hu hv hf hq m
  unfold textB
  match q, hq with
  | 0, _ => exact pre_tks (.inl rfl) h
  | 1, _ => exact pre_tks (.inr (.inl rfl)) h
  | 2, _ => exact pre_tks (.inr (.inr rfl)) h
theorem parseB {u v : Int} (hu : In64 u) (hv : In64 v) {f q : Nat} (hf : f < 5) (hq : q < 3) (m : Bool) (d : Nat) {s : BS} (hs : s.nats = textB q f m (numC u) (numC v)) (hl : s.len ≤ 8000) {σ : H} (ht : Tidy σ) :
    ∃ σ' nm n' t' nb, DT [] 100000 (d + 12) 7 [.str s] σ = some (.tup [.agg [.str nm, .int .i64 (Int.ofNat 0), n', t', .sl nb 0 (typN q) (.op 16)], .int .i64 (Int.ofNat 0), .int .i64 (Int.ofNat 0)], σ') ∧ Atc σ' nb (typL q f m u v) ∧ n'.one = true ∧ t'.one = true ∧ Fr Nowhere σ σ' := by
  obtain ⟨hku, _, _⟩ := numC_ok hu
  obtain ⟨hkv, _, _⟩ := numC_ok hv
  obtain ⟨ts, h1, h2⟩ := textB_tks (len := s.len) hu hv hf hq m
  have hsh := shape_of h2 s.len
  rw [List.append_assoc, List.append_assoc] at hsh
  have hM := modB d hku hkv hf hq m hsh
  have hsk : skipF 100000 s.nats = s.nats := by rw [hs]; exact skip_stay (by kernel_rfl) (by kernel_rfl)
  obtain ⟨σ', w, g1, g2, g3⟩ := parseN_F (N := 100000) (s := s) (xTokens (d + 5)) hM hl (by rw [hsk, hs]; exact h1) ht
  rw [DE7]
  obtain ⟨nm, n', t', nb, rfl, a, b, c⟩ := g2
  exact ⟨σ', nm, n', t', nb, g1, a, b, c, g3⟩
end
end Go.Proofs.YtjolbidcficdhaaDoor
