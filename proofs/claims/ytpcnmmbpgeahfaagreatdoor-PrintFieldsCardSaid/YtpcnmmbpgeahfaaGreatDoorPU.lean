/- PrintFields: the text that is made, apart from what is done with it. No condition. -/
import Derived.Test.YtpcnmmbpgeahfaaGreatDoorKA
set_option maxRecDepth 100000
set_option maxHeartbeats 0
set_option linter.all false
namespace Go.Og
theorem SoundFn.ofNil {P : Program} {G : Nat → Bool} {f : FuncId} {F : List V → H → Ans} (h : SoundFn P [] G f F) (E : List (Nat × Blk)) : SoundFn P E G f F := by
  intro C hE hG R σ w args xs v σ' hr hrel hxs
  have hrel' : Rel ⟨C.O, C.w0, [], C.G⟩ R σ w := ⟨hrel.fresh, hrel.own, hrel.inj, fun id b hb => by simp [look] at hb, hrel.glob, hrel.fr, hrel.size, hrel.new, hrel.os, hrel.tape, hrel.output⟩
  obtain ⟨hok, hc⟩ := h ⟨C.O, C.w0, [], C.G⟩ rfl hG R σ w args xs v σ' hr hrel' hxs
  refine ⟨hok, hc.mono ?_⟩
  rintro en w' ⟨R', x, h1, h2, h3, h4, h5⟩
  refine ⟨R', x, h1, h2, ⟨h3.fresh, h3.own, h3.inj, ?_, h3.glob, h3.fr, h3.size, h3.new, h3.os, h3.tape, h3.output⟩, h4, h5⟩
  intro id b hb
  obtain ⟨i, hi, hn, hx⟩ := hrel.ext id b hb
  exact ⟨i, (h1.le hrel.fresh) _ _ hi, hn, hx.mono (h1.le hrel.fresh) ((h3.fr _ hn).trans (hrel.fr _ hn).symm)⟩
/-- A law answers true, and below the heap's old end nothing has turned; what the arguments lead to is known (E). -/
theorem law_belowE {P : Program} {G : Nat → Bool} {f : FuncId} {F : List V → H → Ans} {E : List (Nat × Blk)} (hS : SoundFn P E G f F) {ng n0 : Nat} (hG : ∀ g, G g = true → g < ng) (hn : ng ≤ n0) (l : List (Nat × BI)) (args : List V) (xs : List Value) (w : World)
    (hl : ∀ id i, look l id = some i → id < n0) (hE : ∀ id b, look E id = some b → ∃ i, argR ng l id = some i ∧ ExtOk (argR ng l) i b w) (hx : concs (argR ng l) args = some xs) (h : okB (F args ⟨n0, []⟩) = true) :
    Calls P f xs.toArray w fun e w' => e = .returned (.bool true) ∧ RowKit.Below w.heap.size w w' := by
  obtain ⟨σ, hσ⟩ := okB_some h
  obtain ⟨_, hc⟩ := hS ⟨fun blk => w.heap.size ≤ blk, w, E, G⟩ rfl rfl (argR ng l) ⟨n0, []⟩ w args xs _ σ hσ (start_relE hG hn l E w hl hE) hx
  refine hc.mono ?_
  rintro en w' ⟨R', x, _, _, h3, h4, rfl⟩
  cases h4
  exact ⟨rfl, h3.os, h3.tape, h3.output, h3.size, fun k hk => h3.fr k (Nat.not_le.2 hk)⟩
end Go.Og
namespace Go.Proofs.YtpcnmmbpgeahfaaGreatDoor.printFields
open Go Go.Og
noncomputable section
def DKp : Den := denK (BD [] 100000) kn gcl 60
def Bq (E : List (Nat × Blk)) (D : Den) (W : DrawFn) (N : Nat) (K6 : BS → H → Ans) : Int → Int → V → BS → Int → H → Ans :=
  Nat.rec (fun _ _ _ _ _ _ => none) (fun _ ih => T4_2 E D W (T4_1 E D W (T4_5 E D W (Nat.rec (motive := fun _ => Int → V → BS → Int → H → Ans) (fun _ _ _ _ _ => none) (fun _ ih => T4_7 E D W K6 (T4_8 E D W ih)) N))) (T4_4 E D W (T4_3 E D W ih))) N
theorem Bq_eq (E : List (Nat × Blk)) (D : Den) (W : DrawFn) (N : Nat) : J4_0 E D W N = T4_0 E D W (Bq E D W N (T4_6 E D W)) := rfl
def R0 (E : List (Nat × Blk)) (D : Den) (W : DrawFn) (K2 : Int → Int → V → BS → Int → H → Ans) (r : Int) (a : Int) (v2 : V) (k : Int) (σ : H) : Ans :=
 let s1 := newB σ (.cells [(V.str (BS.mk 8 4990918871747741011)), (V.str (BS.mk 3 5522771)), (V.str (BS.mk 6 76155295057987))]);
 iaddrSK 1 (V.sl (H.next σ) 0 3 (.ex 3)) k fun b2 o3 =>
 ldK E s1 b2 o3 fun u4 =>
 rtStr u4 fun x5 =>
 catK x5 (BS.mk 2 31520) fun t6 =>
 K2 r a v2 t6 (Int.ofNat 0) s1
theorem R0_eq (E : List (Nat × Blk)) (D : Den) (W : DrawFn) (K2 : Int → Int → V → BS → Int → H → Ans) (v0 v1 : Int) (v2 : V) (v3 : Int) (σ : H) : T4_0 E D W K2 v0 v1 v2 v3 σ = R0 E D W K2 (wrapF .i64 (Int.tmod (wrapF .u64 v0) (Int.ofNat 5))) (wrapF .i64 (Int.tmod (wrapF .u64 v1) (Int.ofNat 5))) v2 (wrapF .i64 (Int.tmod (wrapF .u64 v3) (Int.ofNat 3))) σ := rfl
theorem rtCons_c (v : V) (l : List V) (κ : V → List V → Ans) : rtCons (v :: l) κ = κ v l := rfl
theorem rtNil_n (a : Ans) : rtNil [] a = a := rfl
theorem rtInt_i (n : Int) (κ : Int → Ans) : rtInt .i64 (.int .i64 n) κ = κ n := by simp [rtInt]
theorem F4_eq (E : List (Nat × Blk)) (D : Den) (W : DrawFn) (N : Nat) (x0 x1 x3 : Int) (v : V) (σ : H) : F4 E D W N [.int .i64 x0, .int .i64 x1, v, .int .i64 x3] σ = R0 E D W (Bq E D W N (T4_6 E D W)) (wrapF .i64 (Int.tmod (wrapF .u64 x0) (Int.ofNat 5))) (wrapF .i64 (Int.tmod (wrapF .u64 x1) (Int.ofNat 5))) v (wrapF .i64 (Int.tmod (wrapF .u64 x3) (Int.ofNat 3))) σ := by
  unfold F4
  rw [rtCons_c, rtInt_i, rtCons_c, rtInt_i, rtCons_c, rtCons_c, rtInt_i, rtNil_n, Bq_eq, R0_eq]
/-! ### the text -/
def dg (i : Nat) : BS := ⟨1, Nat.add 48 i⟩
def fT (t : BS) (i : Nat) : BS := BS.cat (BS.cat (BS.cat t ⟨2, 26144⟩) (dg i)) ⟨5, 327698173472⟩
def rootT (t : BS) (r : Nat) : BS := match r with
  | 0 => t
  | 1 => fT t 0
  | 2 => fT (BS.cat (fT t 0) ⟨1, 44⟩) 1
  | 3 => fT (BS.cat (fT (BS.cat (fT t 0) ⟨1, 44⟩) 1) ⟨1, 44⟩) 2
  | _ => fT (BS.cat (fT (BS.cat (fT (BS.cat (fT t 0) ⟨1, 44⟩) 1) ⟨1, 44⟩) 2) ⟨1, 44⟩) 3
def gT (t : BS) (i : Nat) (b : Bool) : BS := match b with
  | true => BS.cat (BS.cat (BS.cat (BS.cat (BS.cat t ⟨6, 113388669313068⟩) (dg i)) ⟨8, 7503045685409041952⟩) (dg i)) ⟨11, 112869877241742151453196832⟩
  | false => BS.cat (BS.cat (BS.cat t ⟨3, 6758444⟩) (dg i)) ⟨5, 327698173472⟩
def addT (t : BS) (a : Nat) (b0 b1 b2 b3 : Bool) : BS := match a with
  | 0 => t
  | 1 => gT t 0 b0
  | 2 => gT (gT t 0 b0) 1 b1
  | 3 => gT (gT (gT t 0 b0) 1 b1) 2 b2
  | _ => gT (gT (gT (gT t 0 b0) 1 b1) 2 b2) 3 b3
def kT (k : Nat) : BS := match k with
  | 0 => ⟨8, 4990918871747741011⟩
  | 1 => ⟨3, 5522771⟩
  | _ => ⟨6, 76155295057987⟩
def comma (t : BS) (r : Nat) : BS := match r with
  | 0 => t
  | _ => BS.cat t ⟨1, 44⟩
def textOf (r a k : Nat) (b0 b1 b2 b3 : Bool) : BS := addT (BS.cat (comma (rootT (BS.cat (kT k) ⟨2, 31520⟩) r) r) ⟨4, 774778400⟩) a b0 b1 b2 b3
def oneB (b : Bool) : Nat := match b with | true => 2 | false => 1
def numB (a : Nat) (b0 b1 b2 b3 : Bool) : Nat := match a with
  | 0 => 0
  | 1 => oneB b0
  | 2 => Nat.add (oneB b0) (oneB b1)
  | 3 => Nat.add (Nat.add (oneB b0) (oneB b1)) (oneB b2)
  | _ => Nat.add (Nat.add (Nat.add (oneB b0) (oneB b1)) (oneB b2)) (oneB b3)
def heapOf (r a : Nat) (b0 b1 b2 b3 : Bool) : H := ⟨Nat.add 101 (Nat.add r (numB a b0 b1 b2 b3)), [(100, .cells [.str (kT 0), .str (kT 1), .str (kT 2)])]⟩
theorem A_nil  (W : DrawFn) (K6 : BS → H → Ans) : ∀ r a k : Nat, r < 5 → a < 5 → k < 3 → R0 [] DKp W (Bq [] DKp W 100000 K6) (Int.ofNat r) (Int.ofNat a) .nils (Int.ofNat k) ⟨100, []⟩ = K6 (textOf r a k false false false false) (heapOf r a false false false false) := by
  intro r a k hr ha hk
  have hr : r = 0 ∨ r = 1 ∨ r = 2 ∨ r = 3 ∨ r = 4 := by omega
  have ha : a = 0 ∨ a = 1 ∨ a = 2 ∨ a = 3 ∨ a = 4 := by omega
  have hk : k = 0 ∨ k = 1 ∨ k = 2 := by omega
  rcases hr with rfl | rfl | rfl | rfl | rfl <;> rcases ha with rfl | rfl | rfl | rfl | rfl <;> rcases hk with rfl | rfl | rfl <;> (refine (?_ : (_ : Ans) = _); kernel_rfl)
theorem A_l0 (E : List (Nat × Blk)) (c : Nat) (W : DrawFn) (K6 : BS → H → Ans) : ∀ r a k : Nat, r < 5 → a < 5 → k < 3 → R0 E DKp W (Bq E DKp W 100000 K6) (Int.ofNat r) (Int.ofNat a) (.sl 50 0 0 (.ex c)) (Int.ofNat k) ⟨100, []⟩ = K6 (textOf r a k false false false false) (heapOf r a false false false false) := by
  intro r a k hr ha hk
  have hr : r = 0 ∨ r = 1 ∨ r = 2 ∨ r = 3 ∨ r = 4 := by omega
  have ha : a = 0 ∨ a = 1 ∨ a = 2 ∨ a = 3 ∨ a = 4 := by omega
  have hk : k = 0 ∨ k = 1 ∨ k = 2 := by omega
  rcases hr with rfl | rfl | rfl | rfl | rfl <;> rcases ha with rfl | rfl | rfl | rfl | rfl <;> rcases hk with rfl | rfl | rfl <;> (refine (?_ : (_ : Ans) = _); kernel_rfl)
theorem A_l1 (b0 : Bool) (c : Nat) (W : DrawFn) (K6 : BS → H → Ans) : ∀ r a k : Nat, r < 5 → a < 5 → k < 3 → R0 [(50, .cells [.bool b0])] DKp W (Bq [(50, .cells [.bool b0])] DKp W 100000 K6) (Int.ofNat r) (Int.ofNat a) (.sl 50 0 1 (.ex c)) (Int.ofNat k) ⟨100, []⟩ = K6 (textOf r a k b0 false false false) (heapOf r a b0 false false false) := by
  intro r a k hr ha hk
  have hr : r = 0 ∨ r = 1 ∨ r = 2 ∨ r = 3 ∨ r = 4 := by omega
  have ha : a = 0 ∨ a = 1 ∨ a = 2 ∨ a = 3 ∨ a = 4 := by omega
  have hk : k = 0 ∨ k = 1 ∨ k = 2 := by omega
  rcases hr with rfl | rfl | rfl | rfl | rfl <;> rcases ha with rfl | rfl | rfl | rfl | rfl <;> rcases hk with rfl | rfl | rfl <;> cases b0 <;> (refine (?_ : (_ : Ans) = _); kernel_rfl)
theorem A_l2 (b0 b1 : Bool) (c : Nat) (W : DrawFn) (K6 : BS → H → Ans) : ∀ r a k : Nat, r < 5 → a < 5 → k < 3 → R0 [(50, .cells [.bool b0, .bool b1])] DKp W (Bq [(50, .cells [.bool b0, .bool b1])] DKp W 100000 K6) (Int.ofNat r) (Int.ofNat a) (.sl 50 0 2 (.ex c)) (Int.ofNat k) ⟨100, []⟩ = K6 (textOf r a k b0 b1 false false) (heapOf r a b0 b1 false false) := by
  intro r a k hr ha hk
  have hr : r = 0 ∨ r = 1 ∨ r = 2 ∨ r = 3 ∨ r = 4 := by omega
  have ha : a = 0 ∨ a = 1 ∨ a = 2 ∨ a = 3 ∨ a = 4 := by omega
  have hk : k = 0 ∨ k = 1 ∨ k = 2 := by omega
  rcases hr with rfl | rfl | rfl | rfl | rfl <;> rcases ha with rfl | rfl | rfl | rfl | rfl <;> rcases hk with rfl | rfl | rfl <;> cases b0 <;> cases b1 <;> (refine (?_ : (_ : Ans) = _); kernel_rfl)
theorem A_l3 (b0 b1 b2 : Bool) (c : Nat) (W : DrawFn) (K6 : BS → H → Ans) : ∀ r a k : Nat, r < 5 → a < 5 → k < 3 → R0 [(50, .cells [.bool b0, .bool b1, .bool b2])] DKp W (Bq [(50, .cells [.bool b0, .bool b1, .bool b2])] DKp W 100000 K6) (Int.ofNat r) (Int.ofNat a) (.sl 50 0 3 (.ex c)) (Int.ofNat k) ⟨100, []⟩ = K6 (textOf r a k b0 b1 b2 false) (heapOf r a b0 b1 b2 false) := by
  intro r a k hr ha hk
  have hr : r = 0 ∨ r = 1 ∨ r = 2 ∨ r = 3 ∨ r = 4 := by omega
  have ha : a = 0 ∨ a = 1 ∨ a = 2 ∨ a = 3 ∨ a = 4 := by omega
  have hk : k = 0 ∨ k = 1 ∨ k = 2 := by omega
  rcases hr with rfl | rfl | rfl | rfl | rfl <;> rcases ha with rfl | rfl | rfl | rfl | rfl <;> rcases hk with rfl | rfl | rfl <;> cases b0 <;> cases b1 <;> cases b2 <;> (refine (?_ : (_ : Ans) = _); kernel_rfl)
theorem A_l4 (b0 b1 b2 b3 : Bool) (n c : Nat) (l : List V) (W : DrawFn) (K6 : BS → H → Ans) : ∀ r a k : Nat, r < 5 → a < 5 → k < 3 → R0 [(50, .cells (.bool b0 :: .bool b1 :: .bool b2 :: .bool b3 :: l))] DKp W (Bq [(50, .cells (.bool b0 :: .bool b1 :: .bool b2 :: .bool b3 :: l))] DKp W 100000 K6) (Int.ofNat r) (Int.ofNat a) (.sl 50 0 (Nat.add n 4) (.ex c)) (Int.ofNat k) ⟨100, []⟩ = K6 (textOf r a k b0 b1 b2 b3) (heapOf r a b0 b1 b2 b3) := by
  intro r a k hr ha hk
  have hr : r = 0 ∨ r = 1 ∨ r = 2 ∨ r = 3 ∨ r = 4 := by omega
  have ha : a = 0 ∨ a = 1 ∨ a = 2 ∨ a = 3 ∨ a = 4 := by omega
  have hk : k = 0 ∨ k = 1 ∨ k = 2 := by omega
  rcases hr with rfl | rfl | rfl | rfl | rfl <;> rcases ha with rfl | rfl | rfl | rfl | rfl <;> rcases hk with rfl | rfl | rfl <;> cases b0 <;> cases b1 <;> cases b2 <;> cases b3 <;> (refine (?_ : (_ : Ans) = _); kernel_rfl)
abbrev T : Bool := true
abbrev F : Bool := false
def Q (E : List (Nat × Blk)) (W : DrawFn) (r a k : Nat) (b0 b1 b2 b3 : Bool) : Bool := okB (T4_6 E DKp W (textOf r a k b0 b1 b2 b3) (heapOf r a b0 b1 b2 b3))
end
end Go.Proofs.YtpcnmmbpgeahfaaGreatDoor.printFields
