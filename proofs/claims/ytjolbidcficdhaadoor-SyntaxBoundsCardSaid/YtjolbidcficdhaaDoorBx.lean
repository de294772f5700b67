/- The signs of texts with numbers in them. -/
import Derived.Test.YtjolbidcficdhaaDoorBu
set_option linter.all false
set_option maxRecDepth 100000
namespace Go.Proofs.YtjolbidcficdhaaDoor
open Go Go.Og
noncomputable section
def TkS (len : Nat) (r : List Nat) (l : List (Nat × List Nat)) : Prop := ∃ ts, Toks 100000 len r ts ∧ ts.map (fun t => (t.1, t.2.1)) = l
theorem TkS.nil (len : Nat) : TkS len [] [] := ⟨[], Toks.nil, rfl⟩
theorem TkS.sign {len k : Nat} {r w r1 r2 : List Nat} {l : List (Nat × List Nat)} (h : stepC r = some (k, w, r1)) (hs : skipF 100000 r1 = r2) (ht : TkS len r2 l) : TkS len r ((k, w) :: l) := by
  obtain ⟨ts, h1, rfl⟩ := ht
  obtain ⟨a, b, c⟩ := stepC_ok h
  exact ⟨_, Toks.cons c b a (by rw [hs]; exact h1), rfl⟩
theorem TkS.num {len : Nat} {r w r1 r2 : List Nat} {v : Int} {l : List (Nat × List Nat)} (h : NumAt r w r1 v) (h0 : 0 < r.length) (hs : skipF 100000 r1 = r2) (ht : TkS len r2 l) : TkS len r ((3, w) :: l) := by
  obtain ⟨ts, h1, rfl⟩ := ht
  exact ⟨_, Toks.cons h0 (by decide) (Step.number h) (by rw [hs]; exact h1), rfl⟩
/-- How a number begins. -/
theorem numHead {v : Int} (hv : In64 v) (s : List Nat) : ∃ c r, numC v ++ s = c :: r ∧ c ≠ 46 ∧ whiteB c = false ∧ preB [45, 45] (c :: r) = false := by
  obtain ⟨hok, hl, hlead⟩ := numC_ok hv
  obtain ⟨neg, ds, hw, hds, hne, hval⟩ := hok.ex
  obtain ⟨d, ds', hdd⟩ : ∃ d ds', ds = d :: ds' := by cases ds with | nil => exact absurd rfl hne | cons d ds' => exact ⟨d, ds', rfl⟩
  have hd := hds d (by rw [hdd]; simp)
  rw [hw, hdd]
  cases neg with
  | true =>
    refine ⟨45, d :: (ds' ++ s), rfl, by decide, rfl, ?_⟩
    show (Nat.beq 45 45 && (Nat.beq 45 d && true)) = false
    have : Nat.beq 45 d = false := by rw [Bool.eq_false_iff]; intro hh; have := Nat.eq_of_beq_eq_true hh; omega
    rw [this]; rfl
  | false =>
    refine ⟨d, ds' ++ s, rfl, by omega, ?_, ?_⟩
    · unfold whiteB
      rw [eqF_nat, eqF_nat, eqF_nat, eqF_nat, decide_eq_false (show ¬ d = 32 by omega), decide_eq_false (show ¬ d = 9 by omega), decide_eq_false (show ¬ d = 10 by omega), decide_eq_false (show ¬ d = 13 by omega)]
      rfl
    · show (Nat.beq 45 d && _) = false
      have : Nat.beq 45 d = false := by rw [Bool.eq_false_iff]; intro hh; have := Nat.eq_of_beq_eq_true hh; omega
      rw [this]; rfl
theorem skipNum {v : Int} (hv : In64 v) (s : List Nat) : skipF 100000 (numC v ++ s) = numC v ++ s := by
  obtain ⟨c, r, e, _, h1, h2⟩ := numHead hv s
  rw [e]; exact skip_stay h1 h2
theorem numAt {v : Int} (hv : In64 v) {s : List Nat} (h1 : letterB (s.getD 0 0) = false) (h2 : digitB (s.getD 0 0) = false) : NumAt (numC v ++ s) (numC v) s v :=
  let ⟨hok, _, hlead⟩ := numC_ok hv
  ⟨rfl, hok, hlead, h1, h2⟩
theorem numPos {v : Int} (hv : In64 v) (s : List Nat) : 0 < (numC v ++ s).length := by
  obtain ⟨c, r, e, _⟩ := numHead hv s
  rw [e]; simp
theorem stepDots {c : Nat} {r : List Nat} (h : c ≠ 46) : stepC (46 :: 46 :: c :: r) = some (6, [46, 46], c :: r) := by
  have hb : Nat.beq 46 c = false := by rw [Bool.eq_false_iff]; exact fun hh => h (Nat.eq_of_beq_eq_true hh).symm
  have no : ∀ (t : BS) (l : List BS), preB t.nats (46 :: 46 :: c :: r) = false → signIn (t :: l) (46 :: 46 :: c :: r) = signIn l (46 :: 46 :: c :: r) := fun t l ht => by
    show (match preB t.nats (46 :: 46 :: c :: r) with | true => some t | false => signIn l (46 :: 46 :: c :: r)) = _
    rw [ht]
  have yes : ∀ (t : BS) (l : List BS), preB t.nats (46 :: 46 :: c :: r) = true → signIn (t :: l) (46 :: 46 :: c :: r) = some t := fun t l ht => by
    show (match preB t.nats (46 :: 46 :: c :: r) with | true => some t | false => signIn l (46 :: 46 :: c :: r)) = _
    rw [ht]
  have e1 : (BS.mk 3 4012602).nats = [58, 58, 61] := by decide +kernel
  have e2 : (BS.mk 3 3026478).nats = [46, 46, 46] := by decide +kernel
  have e3 : (BS.mk 2 11822).nats = [46, 46] := by decide +kernel
  have hs : signOf (46 :: 46 :: c :: r) = some (BS.mk 2 11822) := by
    unfold signOf signs
    rw [no _ _ (by rw [e1]; rfl), no _ _ (by rw [e2]; show (Nat.beq 46 46 && (Nat.beq 46 46 && (Nat.beq 46 c && true))) = false; rw [hb]; rfl)]
    exact yes _ _ (by rw [e3]; rfl)
  have l0 : (46 :: 46 :: c :: r).getD 0 0 = 46 := rfl
  unfold stepC
  rw [l0, show letterB 46 = false from rfl, show digitB 46 = false from rfl, hs]
  simp only [e3]
  rfl
theorem stepDotsNum {v : Int} (hv : In64 v) (s : List Nat) : stepC (46 :: 46 :: (numC v ++ s)) = some (6, [46, 46], numC v ++ s) := by
  obtain ⟨c, r, e, h, _⟩ := numHead hv s
  rw [e]; exact stepDots h
/-- The text of bounds, with what stands behind. -/
def formT (f : Nat) (w1 w2 s : List Nat) : List Nat := match f with
  | 0 => w1 ++ (46 :: 46 :: (w2 ++ s))
  | 1 => w1 ++ s
  | 2 => w1 ++ (46 :: 46 :: 77 :: 65 :: 88 :: s)
  | 3 => 77 :: 73 :: 78 :: 46 :: 46 :: (w2 ++ s)
  | _ => 77 :: 73 :: 78 :: 46 :: 46 :: 77 :: 65 :: 88 :: s
def moreT (m : Bool) (s : List Nat) : List Nat := match m with
  | true => 44 :: 32 :: 46 :: 46 :: 46 :: s
  | false => s
theorem skip0 {c : Nat} {r : List Nat} (hw : whiteB c = false) (hd : Nat.beq 45 c = false) : skipF 100000 (c :: r) = c :: r := skip_stay hw (by show (Nat.beq 45 c && _) = false; rw [hd]; rfl)
theorem form_tks {len : Nat} {u v : Int} (hu : In64 u) (hv : In64 v) {f : Nat} (hf : f < 5) {c : Nat} {s : List Nat} (hc : c = 41 ∨ c = 44) {l : List (Nat × List Nat)} (h : TkS len (c :: s) l) :
    TkS len (formT f (numC u) (numC v) (c :: s)) (formS f (numC u) (numC v) ++ l) := by
  have hl : letterB c = false := by rcases hc with rfl | rfl <;> rfl
  have hd : digitB c = false := by rcases hc with rfl | rfl <;> rfl
  have hk : skipF 100000 (c :: s) = c :: s := by rcases hc with rfl | rfl <;> exact skip0 rfl rfl
  have mx : ∀ {l' : List (Nat × List Nat)}, TkS len (c :: s) l' → TkS len (77 :: 65 :: 88 :: c :: s) ((5, [77, 65, 88]) :: l') := fun h' => by
    rcases hc with rfl | rfl
    · exact TkS.sign (by kernel_rfl) hk h'
    · exact TkS.sign (by kernel_rfl) hk h'
  have mn : ∀ {r : List Nat} {l' : List (Nat × List Nat)}, TkS len (46 :: 46 :: r) l' → TkS len (77 :: 73 :: 78 :: 46 :: 46 :: r) ((5, [77, 73, 78]) :: l') := fun h' =>
    TkS.sign (by kernel_rfl) (skip0 rfl rfl) h'
  have n2 : TkS len (46 :: 46 :: (numC v ++ (c :: s))) ((6, [46, 46]) :: (3, numC v) :: l) := TkS.sign (stepDotsNum hv _) (skipNum hv _) (TkS.num (numAt hv hl hd) (numPos hv _) hk h)
  have m2 : TkS len (46 :: 46 :: 77 :: 65 :: 88 :: c :: s) ((6, [46, 46]) :: (5, [77, 65, 88]) :: l) := TkS.sign (stepDots (by decide)) (skip0 rfl rfl) (mx h)
  match f, hf with
  | 0, _ => exact TkS.num (numAt hu rfl rfl) (numPos hu _) (skip0 rfl rfl) n2
  | 1, _ => exact TkS.num (numAt hu hl hd) (numPos hu _) hk h
  | 2, _ => exact TkS.num (numAt hu rfl rfl) (numPos hu _) (skip0 rfl rfl) m2
  | 3, _ => exact mn n2
  | 4, _ => exact mn m2
theorem all_tks {len : Nat} {u v : Int} (hu : In64 u) (hv : In64 v) {f : Nat} (hf : f < 5) (m : Bool) {s : List Nat} {r : List Nat} (hk : skipF 100000 s = r) {l : List (Nat × List Nat)} (h : TkS len r l) :
    TkS len (formT f (numC u) (numC v) (moreT m (41 :: s))) (allS f m (numC u) (numC v) ++ l) := by
  have h1 : TkS len (41 :: s) ((6, [41]) :: l) := TkS.sign (by kernel_rfl) hk h
  unfold allS
  rw [List.append_assoc]
  cases m with
  | false => exact form_tks hu hv hf (.inl rfl) h1
  | true => exact form_tks hu hv hf (.inr rfl) (TkS.sign (r1 := 32 :: 46 :: 46 :: 46 :: 41 :: s) (by kernel_rfl) (r2 := 46 :: 46 :: 46 :: 41 :: s) (by kernel_rfl) (TkS.sign (by kernel_rfl) (skip0 rfl rfl) h1))
/-- The text of a type, with what stands behind. -/
def typT (q f : Nat) (m : Bool) (w1 w2 s : List Nat) : List Nat := match q with
  | 0 => 73 :: 78 :: 84 :: 69 :: 71 :: 69 :: 82 :: 32 :: 40 :: formT f w1 w2 (moreT m (41 :: s))
  | 1 => 79 :: 67 :: 84 :: 69 :: 84 :: 32 :: 83 :: 84 :: 82 :: 73 :: 78 :: 71 :: 32 :: 40 :: 83 :: 73 :: 90 :: 69 :: 32 :: 40 :: formT f w1 w2 (moreT m (41 :: 41 :: s))
  | _ => 83 :: 69 :: 81 :: 85 :: 69 :: 78 :: 67 :: 69 :: 32 :: 40 :: 83 :: 73 :: 90 :: 69 :: 32 :: 40 :: formT f w1 w2 (moreT m (41 :: 41 :: 32 :: 79 :: 70 :: 32 :: 78 :: 85 :: 76 :: 76 :: s))
theorem skipForm {u v : Int} (hu : In64 u) (hv : In64 v) {f : Nat} (hf : f < 5) (s : List Nat) : skipF 100000 (formT f (numC u) (numC v) s) = formT f (numC u) (numC v) s := by
  match f, hf with
  | 0, _ => exact skipNum hu _
  | 1, _ => exact skipNum hu _
  | 2, _ => exact skipNum hu _
  | 3, _ => exact skip0 rfl rfl
  | 4, _ => exact skip0 rfl rfl
theorem size_tks {len : Nat} {u v : Int} (hu : In64 u) (hv : In64 v) {f : Nat} (hf : f < 5) (m : Bool) {s : List Nat} {r : List Nat} (hk : skipF 100000 s = r) {l : List (Nat × List Nat)} (h : TkS len r l) :
    TkS len (40 :: 83 :: 73 :: 90 :: 69 :: 32 :: 40 :: formT f (numC u) (numC v) (moreT m (41 :: 41 :: s))) (sizeS f m (numC u) (numC v) ++ l) := by
  have h1 : TkS len (41 :: s) ((6, [41]) :: l) := TkS.sign (by kernel_rfl) hk h
  have h2 := all_tks (len := len) hu hv hf m (s := 41 :: s) (skip0 rfl rfl) h1
  have e : sizeS f m (numC u) (numC v) ++ l = (6, [40]) :: (5, [83, 73, 90, 69]) :: (6, [40]) :: (allS f m (numC u) (numC v) ++ (6, [41]) :: l) := by unfold sizeS; simp
  rw [e]
  have h3 : TkS len (40 :: formT f (numC u) (numC v) (moreT m (41 :: 41 :: s))) ((6, [40]) :: (allS f m (numC u) (numC v) ++ (6, [41]) :: l)) := TkS.sign (by kernel_rfl) (skipForm hu hv hf _) h2
  exact TkS.sign (r1 := 83 :: 73 :: 90 :: 69 :: 32 :: 40 :: formT f (numC u) (numC v) (moreT m (41 :: 41 :: s))) (r2 := 83 :: 73 :: 90 :: 69 :: 32 :: 40 :: formT f (numC u) (numC v) (moreT m (41 :: 41 :: s))) (by kernel_rfl) (skip0 rfl rfl) (TkS.sign (r1 := 32 :: 40 :: formT f (numC u) (numC v) (moreT m (41 :: 41 :: s))) (r2 := 40 :: formT f (numC u) (numC v) (moreT m (41 :: 41 :: s))) (by kernel_rfl) (by kernel_rfl) h3)
theorem end_tks (len : Nat) : TkS len [69, 78, 68] [(5, [69, 78, 68])] := TkS.sign (r1 := []) (r2 := []) (by kernel_rfl) (by kernel_rfl) (TkS.nil len)
theorem typ_tks {len : Nat} {u v : Int} (hu : In64 u) (hv : In64 v) {f q : Nat} (hf : f < 5) (hq : q < 3) (m : Bool) :
    TkS len (typT q f m (numC u) (numC v) [32, 69, 78, 68]) (typS q f m (numC u) (numC v) ++ [(5, [69, 78, 68])]) := by
  match q, hq with
  | 0, _ =>
    have h := all_tks (len := len) hu hv hf m (s := [32, 69, 78, 68]) (r := [69, 78, 68]) (by kernel_rfl) (end_tks len)
    have h3 : TkS len (40 :: formT f (numC u) (numC v) (moreT m (41 :: [32, 69, 78, 68]))) ((6, [40]) :: (allS f m (numC u) (numC v) ++ [(5, [69, 78, 68])])) := TkS.sign (by kernel_rfl) (skipForm hu hv hf _) h
    exact TkS.sign (r1 := 32 :: 40 :: formT f (numC u) (numC v) (moreT m (41 :: [32, 69, 78, 68]))) (r2 := 40 :: formT f (numC u) (numC v) (moreT m (41 :: [32, 69, 78, 68]))) (by kernel_rfl) (by kernel_rfl) h3
  | 1, _ =>
    have h := size_tks (len := len) hu hv hf m (s := [32, 69, 78, 68]) (r := [69, 78, 68]) (by kernel_rfl) (end_tks len)
    exact TkS.sign (r1 := 32 :: 83 :: 84 :: 82 :: 73 :: 78 :: 71 :: 32 :: 40 :: 83 :: 73 :: 90 :: 69 :: 32 :: 40 :: formT f (numC u) (numC v) (moreT m (41 :: 41 :: [32, 69, 78, 68]))) (r2 := 83 :: 84 :: 82 :: 73 :: 78 :: 71 :: 32 :: 40 :: 83 :: 73 :: 90 :: 69 :: 32 :: 40 :: formT f (numC u) (numC v) (moreT m (41 :: 41 :: [32, 69, 78, 68]))) (by kernel_rfl) (by kernel_rfl) (TkS.sign (r1 := 32 :: 40 :: 83 :: 73 :: 90 :: 69 :: 32 :: 40 :: formT f (numC u) (numC v) (moreT m (41 :: 41 :: [32, 69, 78, 68]))) (r2 := 40 :: 83 :: 73 :: 90 :: 69 :: 32 :: 40 :: formT f (numC u) (numC v) (moreT m (41 :: 41 :: [32, 69, 78, 68]))) (by kernel_rfl) (by kernel_rfl) h)
  | 2, _ =>
    have h0 : TkS len [78, 85, 76, 76, 32, 69, 78, 68] [(5, nullW), (5, [69, 78, 68])] := TkS.sign (r1 := [32, 69, 78, 68]) (r2 := [69, 78, 68]) (by kernel_rfl) (by kernel_rfl) (end_tks len)
    have h1 : TkS len [79, 70, 32, 78, 85, 76, 76, 32, 69, 78, 68] [(5, [79, 70]), (5, nullW), (5, [69, 78, 68])] := TkS.sign (r1 := [32, 78, 85, 76, 76, 32, 69, 78, 68]) (r2 := [78, 85, 76, 76, 32, 69, 78, 68]) (by kernel_rfl) (by kernel_rfl) h0
    have h := size_tks (len := len) hu hv hf m (s := 32 :: 79 :: 70 :: 32 :: 78 :: 85 :: 76 :: 76 :: [32, 69, 78, 68]) (r := [79, 70, 32, 78, 85, 76, 76, 32, 69, 78, 68]) (by kernel_rfl) h1
    have h2 := TkS.sign (len := len) (k := 5) (w := seqW) (r := 83 :: 69 :: 81 :: 85 :: 69 :: 78 :: 67 :: 69 :: 32 :: 40 :: 83 :: 73 :: 90 :: 69 :: 32 :: 40 :: formT f (numC u) (numC v) (moreT m (41 :: 41 :: 32 :: 79 :: 70 :: 32 :: 78 :: 85 :: 76 :: 76 :: [32, 69, 78, 68]))) (r1 := 32 :: 40 :: 83 :: 73 :: 90 :: 69 :: 32 :: 40 :: formT f (numC u) (numC v) (moreT m (41 :: 41 :: 32 :: 79 :: 70 :: 32 :: 78 :: 85 :: 76 :: 76 :: [32, 69, 78, 68]))) (by kernel_rfl) (by kernel_rfl) h
    have e : typS 2 f m (numC u) (numC v) ++ [(5, [69, 78, 68])] = (5, seqW) :: (sizeS f m (numC u) (numC v) ++ [(5, [79, 70]), (5, nullW), (5, [69, 78, 68])]) := by unfold typS; simp
    rw [e]
    exact h2
end
end Go.Proofs.YtjolbidcficdhaaDoor
