/- The code agrees with the program. Printed by a program off the dump. -/
import Derived.Test.YthkkkmkcjgaghaaGreatDoorAS0
import Derived.Test.YthkkkmkcjgaghaaGreatDoorAS1
import Derived.Test.YthkkkmkcjgaghaaGreatDoorAS2
import Derived.Test.YthkkkmkcjgaghaaGreatDoorProg
import Derived.Test.YthkkkmkcjgaghaaGreatDoorAOgZ
set_option linter.all false
set_option maxRecDepth 100000
set_option maxHeartbeats 0
namespace Go.Proofs.YthkkkmkcjgaghaaGreatDoor
open Go Go.Og
noncomputable section
def glob : Nat → Bool := fun g => Nat.blt g 8
theorem follows : Tryz.prog.follows .mixedOrders = true := by kernel_rfl
def Is (f : Nat) (A : XFn) : Prop := ∃ fn, Tryz.prog.funcs[f]? = some fn ∧ compF Tryz.prog glob fn = some A.strip ∧ A.body.ok = true ∧ callOk Tryz.prog f = true
theorem Is.sound {f : Nat} {A : XFn} (h : Is f A) (E : List (Nat × Blk)) (D : Den) (hD : ∀ f, SoundFn Tryz.prog E glob f (D f)) (N : Nat) : SoundFn Tryz.prog E glob f (runX E D (drawW E D) N A) :=
  let ⟨_, h1, h2, h3, h4⟩ := h
  runX_ok hD (drawW_ok hD follows) follows N h1 h2 rfl h3 h4
def tab : List (Nat × XFn) := [(8, A8), (9, A9), (10, A10), (22, A22), (23, A23), (36, A36), (39, A39), (41, A41), (62, A62), (63, A63), (64, A64), (65, A65), (67, A67), (70, A70), (72, A72), (74, A74), (89, A89), (93, A93), (97, A97), (98, A98), (102, A102), (103, A103), (105, A105), (127, A127), (131, A131), (132, A132), (143, A143), (154, A154), (155, A155), (159, A159), (163, A163), (172, A172), (181, A181), (188, A188), (190, A190), (210, A210), (213, A213)]
theorem tab_is : ∀ p ∈ tab, Is p.1 p.2 := by
  unfold tab
  simp only [List.forall_mem_cons]
  exact ⟨⟨_, Tryz.func8, by kernel_rfl, by kernel_rfl, by kernel_rfl⟩,
    ⟨_, Tryz.func9, by kernel_rfl, by kernel_rfl, by kernel_rfl⟩,
    ⟨_, Tryz.func10, by kernel_rfl, by kernel_rfl, by kernel_rfl⟩,
    ⟨_, Tryz.func22, by kernel_rfl, by kernel_rfl, by kernel_rfl⟩,
    ⟨_, Tryz.func23, by kernel_rfl, by kernel_rfl, by kernel_rfl⟩,
    ⟨_, Tryz.func36, by kernel_rfl, by kernel_rfl, by kernel_rfl⟩,
    ⟨_, Tryz.func39, by kernel_rfl, by kernel_rfl, by kernel_rfl⟩,
    ⟨_, Tryz.func41, by kernel_rfl, by kernel_rfl, by kernel_rfl⟩,
    ⟨_, Tryz.func62, by kernel_rfl, by kernel_rfl, by kernel_rfl⟩,
    ⟨_, Tryz.func63, by kernel_rfl, by kernel_rfl, by kernel_rfl⟩,
    ⟨_, Tryz.func64, by kernel_rfl, by kernel_rfl, by kernel_rfl⟩,
    ⟨_, Tryz.func65, by kernel_rfl, by kernel_rfl, by kernel_rfl⟩,
    ⟨_, Tryz.func67, by kernel_rfl, by kernel_rfl, by kernel_rfl⟩,
    ⟨_, Tryz.func70, by kernel_rfl, by kernel_rfl, by kernel_rfl⟩,
    ⟨_, Tryz.func72, by kernel_rfl, by kernel_rfl, by kernel_rfl⟩,
    ⟨_, Tryz.func74, by kernel_rfl, by kernel_rfl, by kernel_rfl⟩,
    ⟨_, Tryz.func89, by kernel_rfl, by kernel_rfl, by kernel_rfl⟩,
    ⟨_, Tryz.func93, by kernel_rfl, by kernel_rfl, by kernel_rfl⟩,
    ⟨_, Tryz.func97, by kernel_rfl, by kernel_rfl, by kernel_rfl⟩,
    ⟨_, Tryz.func98, by kernel_rfl, by kernel_rfl, by kernel_rfl⟩,
    ⟨_, Tryz.func102, by kernel_rfl, by kernel_rfl, by kernel_rfl⟩,
    ⟨_, Tryz.func103, by kernel_rfl, by kernel_rfl, by kernel_rfl⟩,
    ⟨_, Tryz.func105, by kernel_rfl, by kernel_rfl, by kernel_rfl⟩,
    ⟨_, Tryz.func127, by kernel_rfl, by kernel_rfl, by kernel_rfl⟩,
    ⟨_, Tryz.func131, by kernel_rfl, by kernel_rfl, by kernel_rfl⟩,
    ⟨_, Tryz.func132, by kernel_rfl, by kernel_rfl, by kernel_rfl⟩,
    ⟨_, Tryz.func143, by kernel_rfl, by kernel_rfl, by kernel_rfl⟩,
    ⟨_, Tryz.func154, by kernel_rfl, by kernel_rfl, by kernel_rfl⟩,
    ⟨_, Tryz.func155, by kernel_rfl, by kernel_rfl, by kernel_rfl⟩,
    ⟨_, Tryz.func159, by kernel_rfl, by kernel_rfl, by kernel_rfl⟩,
    ⟨_, Tryz.func163, by kernel_rfl, by kernel_rfl, by kernel_rfl⟩,
    ⟨_, Tryz.func172, by kernel_rfl, by kernel_rfl, by kernel_rfl⟩,
    ⟨_, Tryz.func181, by kernel_rfl, by kernel_rfl, by kernel_rfl⟩,
    ⟨_, Tryz.func188, by kernel_rfl, by kernel_rfl, by kernel_rfl⟩,
    ⟨_, Tryz.func190, by kernel_rfl, by kernel_rfl, by kernel_rfl⟩,
    ⟨_, Tryz.func210, by kernel_rfl, by kernel_rfl, by kernel_rfl⟩,
    ⟨_, Tryz.func213, by kernel_rfl, by kernel_rfl, by kernel_rfl⟩, fun _ h => nomatch h⟩
def lookA : List (Nat × XFn) → Nat → Option XFn := fun l n => List.rec none (fun p _ ih => match Nat.beq p.1 n with | true => some p.2 | false => ih) l
theorem lookA_mem : ∀ (l : List (Nat × XFn)) (n : Nat) (g : XFn), lookA l n = some g → (n, g) ∈ l
  | [], n, g, h => by cases h
  | p :: l, n, g, h => by
    have h' : (match Nat.beq p.1 n with | true => some p.2 | false => lookA l n) = some g := h
    cases hb : Nat.beq p.1 n with
    | true =>
      rw [hb] at h'
      simp only [Option.some.injEq] at h'
      have := Nat.eq_of_beq_eq_true hb
      subst this; subst h'
      exact List.mem_cons_self
    | false =>
      rw [hb] at h'
      exact List.mem_cons_of_mem _ (lookA_mem l n g h')
theorem CF3 : compF Tryz.prog glob Tryz.f3 = some A3.strip := by kernel_rfl
theorem CO3 : callOk Tryz.prog 3 = true := by kernel_rfl
theorem SF3 (E : List (Nat × Blk)) (D : Den) (hD : ∀ f, SoundFn Tryz.prog E glob f (D f)) (N : Nat) : SoundFn Tryz.prog E glob 3 (F3 E D (drawW E D) N) := by
  have h := runX_ok hD (drawW_ok hD follows) follows N Tryz.func3 (xf := A3) CF3 rfl AO3 CO3
  have he : runX E D (drawW E D) N A3 = F3 E D (drawW E D) N := by funext args σ; exact FE3 E D (drawW E D) N args σ
  rw [he] at h; exact h
theorem CF115 : compF Tryz.prog glob Tryz.f115 = some A115.strip := by kernel_rfl
theorem CO115 : callOk Tryz.prog 115 = true := by kernel_rfl
theorem SF115 (E : List (Nat × Blk)) (D : Den) (hD : ∀ f, SoundFn Tryz.prog E glob f (D f)) (N : Nat) : SoundFn Tryz.prog E glob 115 (F115 E D (drawW E D) N) := by
  have h := runX_ok hD (drawW_ok hD follows) follows N Tryz.func115 (xf := A115) CF115 rfl AO115 CO115
  have he : runX E D (drawW E D) N A115 = F115 E D (drawW E D) N := by funext args σ; exact FE115 E D (drawW E D) N args σ
  rw [he] at h; exact h
theorem CF136 : compF Tryz.prog glob Tryz.f136 = some A136.strip := by kernel_rfl
theorem CO136 : callOk Tryz.prog 136 = true := by kernel_rfl
theorem SF136 (E : List (Nat × Blk)) (D : Den) (hD : ∀ f, SoundFn Tryz.prog E glob f (D f)) (N : Nat) : SoundFn Tryz.prog E glob 136 (F136 E D (drawW E D) N) := by
  have h := runX_ok hD (drawW_ok hD follows) follows N Tryz.func136 (xf := A136) CF136 rfl AO136 CO136
  have he : runX E D (drawW E D) N A136 = F136 E D (drawW E D) N := by funext args σ; exact FE136 E D (drawW E D) N args σ
  rw [he] at h; exact h
theorem CF156 : compF Tryz.prog glob Tryz.f156 = some A156.strip := by kernel_rfl
theorem CO156 : callOk Tryz.prog 156 = true := by kernel_rfl
theorem SF156 (E : List (Nat × Blk)) (D : Den) (hD : ∀ f, SoundFn Tryz.prog E glob f (D f)) (N : Nat) : SoundFn Tryz.prog E glob 156 (F156 E D (drawW E D) N) := by
  have h := runX_ok hD (drawW_ok hD follows) follows N Tryz.func156 (xf := A156) CF156 rfl AO156 CO156
  have he : runX E D (drawW E D) N A156 = F156 E D (drawW E D) N := by funext args σ; exact FE156 E D (drawW E D) N args σ
  rw [he] at h; exact h
theorem CF40 : compF Tryz.prog glob Tryz.f40 = some A40.strip := by kernel_rfl
theorem CO40 : callOk Tryz.prog 40 = true := by kernel_rfl
theorem SF40 (E : List (Nat × Blk)) (D : Den) (hD : ∀ f, SoundFn Tryz.prog E glob f (D f)) (N : Nat) : SoundFn Tryz.prog E glob 40 (F40 E D (drawW E D) N) := by
  have h := runX_ok hD (drawW_ok hD follows) follows N Tryz.func40 (xf := A40) CF40 rfl AO40 CO40
  have he : runX E D (drawW E D) N A40 = F40 E D (drawW E D) N := by funext args σ; exact FE40 E D (drawW E D) N args σ
  rw [he] at h; exact h
theorem CF68 : compF Tryz.prog glob Tryz.f68 = some A68.strip := by kernel_rfl
theorem CO68 : callOk Tryz.prog 68 = true := by kernel_rfl
theorem SF68 (E : List (Nat × Blk)) (D : Den) (hD : ∀ f, SoundFn Tryz.prog E glob f (D f)) (N : Nat) : SoundFn Tryz.prog E glob 68 (F68 E D (drawW E D) N) := by
  have h := runX_ok hD (drawW_ok hD follows) follows N Tryz.func68 (xf := A68) CF68 rfl AO68 CO68
  have he : runX E D (drawW E D) N A68 = F68 E D (drawW E D) N := by funext args σ; exact FE68 E D (drawW E D) N args σ
  rw [he] at h; exact h
theorem CF118 : compF Tryz.prog glob Tryz.f118 = some A118.strip := by kernel_rfl
theorem CO118 : callOk Tryz.prog 118 = true := by kernel_rfl
theorem SF118 (E : List (Nat × Blk)) (D : Den) (hD : ∀ f, SoundFn Tryz.prog E glob f (D f)) (N : Nat) : SoundFn Tryz.prog E glob 118 (F118 E D (drawW E D) N) := by
  have h := runX_ok hD (drawW_ok hD follows) follows N Tryz.func118 (xf := A118) CF118 rfl AO118 CO118
  have he : runX E D (drawW E D) N A118 = F118 E D (drawW E D) N := by funext args σ; exact FE118 E D (drawW E D) N args σ
  rw [he] at h; exact h
theorem CF101 : compF Tryz.prog glob Tryz.f101 = some A101.strip := by kernel_rfl
theorem CO101 : callOk Tryz.prog 101 = true := by kernel_rfl
theorem SF101 (E : List (Nat × Blk)) (D : Den) (hD : ∀ f, SoundFn Tryz.prog E glob f (D f)) (N : Nat) : SoundFn Tryz.prog E glob 101 (F101 E D (drawW E D) N) := by
  have h := runX_ok hD (drawW_ok hD follows) follows N Tryz.func101 (xf := A101) CF101 rfl AO101 CO101
  have he : runX E D (drawW E D) N A101 = F101 E D (drawW E D) N := by funext args σ; exact FE101 E D (drawW E D) N args σ
  rw [he] at h; exact h
theorem CF192 : compF Tryz.prog glob Tryz.f192 = some A192.strip := by kernel_rfl
theorem CO192 : callOk Tryz.prog 192 = true := by kernel_rfl
theorem SF192 (E : List (Nat × Blk)) (D : Den) (hD : ∀ f, SoundFn Tryz.prog E glob f (D f)) (N : Nat) : SoundFn Tryz.prog E glob 192 (F192 E D (drawW E D) N) := by
  have h := runX_ok hD (drawW_ok hD follows) follows N Tryz.func192 (xf := A192) CF192 rfl AO192 CO192
  have he : runX E D (drawW E D) N A192 = F192 E D (drawW E D) N := by funext args σ; exact FE192 E D (drawW E D) N args σ
  rw [he] at h; exact h
theorem CF191 : compF Tryz.prog glob Tryz.f191 = some A191.strip := by kernel_rfl
theorem CO191 : callOk Tryz.prog 191 = true := by kernel_rfl
theorem SF191 (E : List (Nat × Blk)) (D : Den) (hD : ∀ f, SoundFn Tryz.prog E glob f (D f)) (N : Nat) : SoundFn Tryz.prog E glob 191 (F191 E D (drawW E D) N) := by
  have h := runX_ok hD (drawW_ok hD follows) follows N Tryz.func191 (xf := A191) CF191 rfl AO191 CO191
  have he : runX E D (drawW E D) N A191 = F191 E D (drawW E D) N := by funext args σ; exact FE191 E D (drawW E D) N args σ
  rw [he] at h; exact h
theorem CF96 : compF Tryz.prog glob Tryz.f96 = some A96.strip := by kernel_rfl
theorem CO96 : callOk Tryz.prog 96 = true := by kernel_rfl
theorem SF96 (E : List (Nat × Blk)) (D : Den) (hD : ∀ f, SoundFn Tryz.prog E glob f (D f)) (N : Nat) : SoundFn Tryz.prog E glob 96 (F96 E D (drawW E D) N) := by
  have h := runX_ok hD (drawW_ok hD follows) follows N Tryz.func96 (xf := A96) CF96 rfl AO96 CO96
  have he : runX E D (drawW E D) N A96 = F96 E D (drawW E D) N := by funext args σ; exact FE96 E D (drawW E D) N args σ
  rw [he] at h; exact h
theorem CF177 : compF Tryz.prog glob Tryz.f177 = some A177.strip := by kernel_rfl
theorem CO177 : callOk Tryz.prog 177 = true := by kernel_rfl
theorem SF177 (E : List (Nat × Blk)) (D : Den) (hD : ∀ f, SoundFn Tryz.prog E glob f (D f)) (N : Nat) : SoundFn Tryz.prog E glob 177 (F177 E D (drawW E D) N) := by
  have h := runX_ok hD (drawW_ok hD follows) follows N Tryz.func177 (xf := A177) CF177 rfl AO177 CO177
  have he : runX E D (drawW E D) N A177 = F177 E D (drawW E D) N := by funext args σ; exact FE177 E D (drawW E D) N args σ
  rw [he] at h; exact h
theorem CF116 : compF Tryz.prog glob Tryz.f116 = some A116.strip := by kernel_rfl
theorem CO116 : callOk Tryz.prog 116 = true := by kernel_rfl
theorem SF116 (E : List (Nat × Blk)) (D : Den) (hD : ∀ f, SoundFn Tryz.prog E glob f (D f)) (N : Nat) : SoundFn Tryz.prog E glob 116 (F116 E D (drawW E D) N) := by
  have h := runX_ok hD (drawW_ok hD follows) follows N Tryz.func116 (xf := A116) CF116 rfl AO116 CO116
  have he : runX E D (drawW E D) N A116 = F116 E D (drawW E D) N := by funext args σ; exact FE116 E D (drawW E D) N args σ
  rw [he] at h; exact h
theorem CF87 : compF Tryz.prog glob Tryz.f87 = some A87.strip := by kernel_rfl
theorem CO87 : callOk Tryz.prog 87 = true := by kernel_rfl
theorem SF87 (E : List (Nat × Blk)) (D : Den) (hD : ∀ f, SoundFn Tryz.prog E glob f (D f)) (N : Nat) : SoundFn Tryz.prog E glob 87 (F87 E D (drawW E D) N) := by
  have h := runX_ok hD (drawW_ok hD follows) follows N Tryz.func87 (xf := A87) CF87 rfl AO87 CO87
  have he : runX E D (drawW E D) N A87 = F87 E D (drawW E D) N := by funext args σ; exact FE87 E D (drawW E D) N args σ
  rw [he] at h; exact h
theorem CF69 : compF Tryz.prog glob Tryz.f69 = some A69.strip := by kernel_rfl
theorem CO69 : callOk Tryz.prog 69 = true := by kernel_rfl
theorem SF69 (E : List (Nat × Blk)) (D : Den) (hD : ∀ f, SoundFn Tryz.prog E glob f (D f)) (N : Nat) : SoundFn Tryz.prog E glob 69 (F69 E D (drawW E D) N) := by
  have h := runX_ok hD (drawW_ok hD follows) follows N Tryz.func69 (xf := A69) CF69 rfl AO69 CO69
  have he : runX E D (drawW E D) N A69 = F69 E D (drawW E D) N := by funext args σ; exact FE69 E D (drawW E D) N args σ
  rw [he] at h; exact h
theorem CF166 : compF Tryz.prog glob Tryz.f166 = some A166.strip := by kernel_rfl
theorem CO166 : callOk Tryz.prog 166 = true := by kernel_rfl
theorem SF166 (E : List (Nat × Blk)) (D : Den) (hD : ∀ f, SoundFn Tryz.prog E glob f (D f)) (N : Nat) : SoundFn Tryz.prog E glob 166 (F166 E D (drawW E D) N) := by
  have h := runX_ok hD (drawW_ok hD follows) follows N Tryz.func166 (xf := A166) CF166 rfl AO166 CO166
  have he : runX E D (drawW E D) N A166 = F166 E D (drawW E D) N := by funext args σ; exact FE166 E D (drawW E D) N args σ
  rw [he] at h; exact h
theorem CF123 : compF Tryz.prog glob Tryz.f123 = some A123.strip := by kernel_rfl
theorem CO123 : callOk Tryz.prog 123 = true := by kernel_rfl
theorem SF123 (E : List (Nat × Blk)) (D : Den) (hD : ∀ f, SoundFn Tryz.prog E glob f (D f)) (N : Nat) : SoundFn Tryz.prog E glob 123 (F123 E D (drawW E D) N) := by
  have h := runX_ok hD (drawW_ok hD follows) follows N Tryz.func123 (xf := A123) CF123 rfl AO123 CO123
  have he : runX E D (drawW E D) N A123 = F123 E D (drawW E D) N := by funext args σ; exact FE123 E D (drawW E D) N args σ
  rw [he] at h; exact h
theorem CF117 : compF Tryz.prog glob Tryz.f117 = some A117.strip := by kernel_rfl
theorem CO117 : callOk Tryz.prog 117 = true := by kernel_rfl
theorem SF117 (E : List (Nat × Blk)) (D : Den) (hD : ∀ f, SoundFn Tryz.prog E glob f (D f)) (N : Nat) : SoundFn Tryz.prog E glob 117 (F117 E D (drawW E D) N) := by
  have h := runX_ok hD (drawW_ok hD follows) follows N Tryz.func117 (xf := A117) CF117 rfl AO117 CO117
  have he : runX E D (drawW E D) N A117 = F117 E D (drawW E D) N := by funext args σ; exact FE117 E D (drawW E D) N args σ
  rw [he] at h; exact h
theorem CF61 : compF Tryz.prog glob Tryz.f61 = some A61.strip := by kernel_rfl
theorem CO61 : callOk Tryz.prog 61 = true := by kernel_rfl
theorem SF61 (E : List (Nat × Blk)) (D : Den) (hD : ∀ f, SoundFn Tryz.prog E glob f (D f)) (N : Nat) : SoundFn Tryz.prog E glob 61 (F61 E D (drawW E D) N) := by
  have h := runX_ok hD (drawW_ok hD follows) follows N Tryz.func61 (xf := A61) CF61 rfl AO61 CO61
  have he : runX E D (drawW E D) N A61 = F61 E D (drawW E D) N := by funext args σ; exact FE61 E D (drawW E D) N args σ
  rw [he] at h; exact h
theorem CF66 : compF Tryz.prog glob Tryz.f66 = some A66.strip := by kernel_rfl
theorem CO66 : callOk Tryz.prog 66 = true := by kernel_rfl
theorem SF66 (E : List (Nat × Blk)) (D : Den) (hD : ∀ f, SoundFn Tryz.prog E glob f (D f)) (N : Nat) : SoundFn Tryz.prog E glob 66 (F66 E D (drawW E D) N) := by
  have h := runX_ok hD (drawW_ok hD follows) follows N Tryz.func66 (xf := A66) CF66 rfl AO66 CO66
  have he : runX E D (drawW E D) N A66 = F66 E D (drawW E D) N := by funext args σ; exact FE66 E D (drawW E D) N args σ
  rw [he] at h; exact h
theorem CF95 : compF Tryz.prog glob Tryz.f95 = some A95.strip := by kernel_rfl
theorem CO95 : callOk Tryz.prog 95 = true := by kernel_rfl
theorem SF95 (E : List (Nat × Blk)) (D : Den) (hD : ∀ f, SoundFn Tryz.prog E glob f (D f)) (N : Nat) : SoundFn Tryz.prog E glob 95 (F95 E D (drawW E D) N) := by
  have h := runX_ok hD (drawW_ok hD follows) follows N Tryz.func95 (xf := A95) CF95 rfl AO95 CO95
  have he : runX E D (drawW E D) N A95 = F95 E D (drawW E D) N := by funext args σ; exact FE95 E D (drawW E D) N args σ
  rw [he] at h; exact h
theorem CF128 : compF Tryz.prog glob Tryz.f128 = some A128.strip := by kernel_rfl
theorem CO128 : callOk Tryz.prog 128 = true := by kernel_rfl
theorem SF128 (E : List (Nat × Blk)) (D : Den) (hD : ∀ f, SoundFn Tryz.prog E glob f (D f)) (N : Nat) : SoundFn Tryz.prog E glob 128 (F128 E D (drawW E D) N) := by
  have h := runX_ok hD (drawW_ok hD follows) follows N Tryz.func128 (xf := A128) CF128 rfl AO128 CO128
  have he : runX E D (drawW E D) N A128 = F128 E D (drawW E D) N := by funext args σ; exact FE128 E D (drawW E D) N args σ
  rw [he] at h; exact h
theorem CF71 : compF Tryz.prog glob Tryz.f71 = some A71.strip := by kernel_rfl
theorem CO71 : callOk Tryz.prog 71 = true := by kernel_rfl
theorem SF71 (E : List (Nat × Blk)) (D : Den) (hD : ∀ f, SoundFn Tryz.prog E glob f (D f)) (N : Nat) : SoundFn Tryz.prog E glob 71 (F71 E D (drawW E D) N) := by
  have h := runX_ok hD (drawW_ok hD follows) follows N Tryz.func71 (xf := A71) CF71 rfl AO71 CO71
  have he : runX E D (drawW E D) N A71 = F71 E D (drawW E D) N := by funext args σ; exact FE71 E D (drawW E D) N args σ
  rw [he] at h; exact h
theorem CF125 : compF Tryz.prog glob Tryz.f125 = some A125.strip := by kernel_rfl
theorem CO125 : callOk Tryz.prog 125 = true := by kernel_rfl
theorem SF125 (E : List (Nat × Blk)) (D : Den) (hD : ∀ f, SoundFn Tryz.prog E glob f (D f)) (N : Nat) : SoundFn Tryz.prog E glob 125 (F125 E D (drawW E D) N) := by
  have h := runX_ok hD (drawW_ok hD follows) follows N Tryz.func125 (xf := A125) CF125 rfl AO125 CO125
  have he : runX E D (drawW E D) N A125 = F125 E D (drawW E D) N := by funext args σ; exact FE125 E D (drawW E D) N args σ
  rw [he] at h; exact h
theorem CF165 : compF Tryz.prog glob Tryz.f165 = some A165.strip := by kernel_rfl
theorem CO165 : callOk Tryz.prog 165 = true := by kernel_rfl
theorem SF165 (E : List (Nat × Blk)) (D : Den) (hD : ∀ f, SoundFn Tryz.prog E glob f (D f)) (N : Nat) : SoundFn Tryz.prog E glob 165 (F165 E D (drawW E D) N) := by
  have h := runX_ok hD (drawW_ok hD follows) follows N Tryz.func165 (xf := A165) CF165 rfl AO165 CO165
  have he : runX E D (drawW E D) N A165 = F165 E D (drawW E D) N := by funext args σ; exact FE165 E D (drawW E D) N args σ
  rw [he] at h; exact h
theorem CF107 : compF Tryz.prog glob Tryz.f107 = some A107.strip := by kernel_rfl
theorem CO107 : callOk Tryz.prog 107 = true := by kernel_rfl
theorem SF107 (E : List (Nat × Blk)) (D : Den) (hD : ∀ f, SoundFn Tryz.prog E glob f (D f)) (N : Nat) : SoundFn Tryz.prog E glob 107 (F107 E D (drawW E D) N) := by
  have h := runX_ok hD (drawW_ok hD follows) follows N Tryz.func107 (xf := A107) CF107 rfl AO107 CO107
  have he : runX E D (drawW E D) N A107 = F107 E D (drawW E D) N := by funext args σ; exact FE107 E D (drawW E D) N args σ
  rw [he] at h; exact h
theorem CF88 : compF Tryz.prog glob Tryz.f88 = some A88.strip := by kernel_rfl
theorem CO88 : callOk Tryz.prog 88 = true := by kernel_rfl
theorem SF88 (E : List (Nat × Blk)) (D : Den) (hD : ∀ f, SoundFn Tryz.prog E glob f (D f)) (N : Nat) : SoundFn Tryz.prog E glob 88 (F88 E D (drawW E D) N) := by
  have h := runX_ok hD (drawW_ok hD follows) follows N Tryz.func88 (xf := A88) CF88 rfl AO88 CO88
  have he : runX E D (drawW E D) N A88 = F88 E D (drawW E D) N := by funext args σ; exact FE88 E D (drawW E D) N args σ
  rw [he] at h; exact h
theorem CF134 : compF Tryz.prog glob Tryz.f134 = some A134.strip := by kernel_rfl
theorem CO134 : callOk Tryz.prog 134 = true := by kernel_rfl
theorem SF134 (E : List (Nat × Blk)) (D : Den) (hD : ∀ f, SoundFn Tryz.prog E glob f (D f)) (N : Nat) : SoundFn Tryz.prog E glob 134 (F134 E D (drawW E D) N) := by
  have h := runX_ok hD (drawW_ok hD follows) follows N Tryz.func134 (xf := A134) CF134 rfl AO134 CO134
  have he : runX E D (drawW E D) N A134 = F134 E D (drawW E D) N := by funext args σ; exact FE134 E D (drawW E D) N args σ
  rw [he] at h; exact h
theorem CF108 : compF Tryz.prog glob Tryz.f108 = some A108.strip := by kernel_rfl
theorem CO108 : callOk Tryz.prog 108 = true := by kernel_rfl
theorem SF108 (E : List (Nat × Blk)) (D : Den) (hD : ∀ f, SoundFn Tryz.prog E glob f (D f)) (N : Nat) : SoundFn Tryz.prog E glob 108 (F108 E D (drawW E D) N) := by
  have h := runX_ok hD (drawW_ok hD follows) follows N Tryz.func108 (xf := A108) CF108 rfl AO108 CO108
  have he : runX E D (drawW E D) N A108 = F108 E D (drawW E D) N := by funext args σ; exact FE108 E D (drawW E D) N args σ
  rw [he] at h; exact h
theorem CF150 : compF Tryz.prog glob Tryz.f150 = some A150.strip := by kernel_rfl
theorem CO150 : callOk Tryz.prog 150 = true := by kernel_rfl
theorem SF150 (E : List (Nat × Blk)) (D : Den) (hD : ∀ f, SoundFn Tryz.prog E glob f (D f)) (N : Nat) : SoundFn Tryz.prog E glob 150 (F150 E D (drawW E D) N) := by
  have h := runX_ok hD (drawW_ok hD follows) follows N Tryz.func150 (xf := A150) CF150 rfl AO150 CO150
  have he : runX E D (drawW E D) N A150 = F150 E D (drawW E D) N := by funext args σ; exact FE150 E D (drawW E D) N args σ
  rw [he] at h; exact h
theorem CF91 : compF Tryz.prog glob Tryz.f91 = some A91.strip := by kernel_rfl
theorem CO91 : callOk Tryz.prog 91 = true := by kernel_rfl
theorem SF91 (E : List (Nat × Blk)) (D : Den) (hD : ∀ f, SoundFn Tryz.prog E glob f (D f)) (N : Nat) : SoundFn Tryz.prog E glob 91 (F91 E D (drawW E D) N) := by
  have h := runX_ok hD (drawW_ok hD follows) follows N Tryz.func91 (xf := A91) CF91 rfl AO91 CO91
  have he : runX E D (drawW E D) N A91 = F91 E D (drawW E D) N := by funext args σ; exact FE91 E D (drawW E D) N args σ
  rw [he] at h; exact h
theorem CF6 : compF Tryz.prog glob Tryz.f6 = some A6.strip := by kernel_rfl
theorem CO6 : callOk Tryz.prog 6 = true := by kernel_rfl
theorem SF6 (E : List (Nat × Blk)) (D : Den) (hD : ∀ f, SoundFn Tryz.prog E glob f (D f)) (N : Nat) : SoundFn Tryz.prog E glob 6 (F6 E D (drawW E D) N) := by
  have h := runX_ok hD (drawW_ok hD follows) follows N Tryz.func6 (xf := A6) CF6 rfl AO6 CO6
  have he : runX E D (drawW E D) N A6 = F6 E D (drawW E D) N := by funext args σ; exact FE6 E D (drawW E D) N args σ
  rw [he] at h; exact h
theorem CF92 : compF Tryz.prog glob Tryz.f92 = some A92.strip := by kernel_rfl
theorem CO92 : callOk Tryz.prog 92 = true := by kernel_rfl
theorem SF92 (E : List (Nat × Blk)) (D : Den) (hD : ∀ f, SoundFn Tryz.prog E glob f (D f)) (N : Nat) : SoundFn Tryz.prog E glob 92 (F92 E D (drawW E D) N) := by
  have h := runX_ok hD (drawW_ok hD follows) follows N Tryz.func92 (xf := A92) CF92 rfl AO92 CO92
  have he : runX E D (drawW E D) N A92 = F92 E D (drawW E D) N := by funext args σ; exact FE92 E D (drawW E D) N args σ
  rw [he] at h; exact h
theorem CF151 : compF Tryz.prog glob Tryz.f151 = some A151.strip := by kernel_rfl
theorem CO151 : callOk Tryz.prog 151 = true := by kernel_rfl
theorem SF151 (E : List (Nat × Blk)) (D : Den) (hD : ∀ f, SoundFn Tryz.prog E glob f (D f)) (N : Nat) : SoundFn Tryz.prog E glob 151 (F151 E D (drawW E D) N) := by
  have h := runX_ok hD (drawW_ok hD follows) follows N Tryz.func151 (xf := A151) CF151 rfl AO151 CO151
  have he : runX E D (drawW E D) N A151 = F151 E D (drawW E D) N := by funext args σ; exact FE151 E D (drawW E D) N args σ
  rw [he] at h; exact h
theorem CF86 : compF Tryz.prog glob Tryz.f86 = some A86.strip := by kernel_rfl
theorem CO86 : callOk Tryz.prog 86 = true := by kernel_rfl
theorem SF86 (E : List (Nat × Blk)) (D : Den) (hD : ∀ f, SoundFn Tryz.prog E glob f (D f)) (N : Nat) : SoundFn Tryz.prog E glob 86 (F86 E D (drawW E D) N) := by
  have h := runX_ok hD (drawW_ok hD follows) follows N Tryz.func86 (xf := A86) CF86 rfl AO86 CO86
  have he : runX E D (drawW E D) N A86 = F86 E D (drawW E D) N := by funext args σ; exact FE86 E D (drawW E D) N args σ
  rw [he] at h; exact h
theorem CF133 : compF Tryz.prog glob Tryz.f133 = some A133.strip := by kernel_rfl
theorem CO133 : callOk Tryz.prog 133 = true := by kernel_rfl
theorem SF133 (E : List (Nat × Blk)) (D : Den) (hD : ∀ f, SoundFn Tryz.prog E glob f (D f)) (N : Nat) : SoundFn Tryz.prog E glob 133 (F133 E D (drawW E D) N) := by
  have h := runX_ok hD (drawW_ok hD follows) follows N Tryz.func133 (xf := A133) CF133 rfl AO133 CO133
  have he : runX E D (drawW E D) N A133 = F133 E D (drawW E D) N := by funext args σ; exact FE133 E D (drawW E D) N args σ
  rw [he] at h; exact h
theorem CF164 : compF Tryz.prog glob Tryz.f164 = some A164.strip := by kernel_rfl
theorem CO164 : callOk Tryz.prog 164 = true := by kernel_rfl
theorem SF164 (E : List (Nat × Blk)) (D : Den) (hD : ∀ f, SoundFn Tryz.prog E glob f (D f)) (N : Nat) : SoundFn Tryz.prog E glob 164 (F164 E D (drawW E D) N) := by
  have h := runX_ok hD (drawW_ok hD follows) follows N Tryz.func164 (xf := A164) CF164 rfl AO164 CO164
  have he : runX E D (drawW E D) N A164 = F164 E D (drawW E D) N := by funext args σ; exact FE164 E D (drawW E D) N args σ
  rw [he] at h; exact h
theorem CF44 : compF Tryz.prog glob Tryz.f44 = some A44.strip := by kernel_rfl
theorem CO44 : callOk Tryz.prog 44 = true := by kernel_rfl
theorem SF44 (E : List (Nat × Blk)) (D : Den) (hD : ∀ f, SoundFn Tryz.prog E glob f (D f)) (N : Nat) : SoundFn Tryz.prog E glob 44 (F44 E D (drawW E D) N) := by
  have h := runX_ok hD (drawW_ok hD follows) follows N Tryz.func44 (xf := A44) CF44 rfl AO44 CO44
  have he : runX E D (drawW E D) N A44 = F44 E D (drawW E D) N := by funext args σ; exact FE44 E D (drawW E D) N args σ
  rw [he] at h; exact h
theorem CF145 : compF Tryz.prog glob Tryz.f145 = some A145.strip := by kernel_rfl
theorem CO145 : callOk Tryz.prog 145 = true := by kernel_rfl
theorem SF145 (E : List (Nat × Blk)) (D : Den) (hD : ∀ f, SoundFn Tryz.prog E glob f (D f)) (N : Nat) : SoundFn Tryz.prog E glob 145 (F145 E D (drawW E D) N) := by
  have h := runX_ok hD (drawW_ok hD follows) follows N Tryz.func145 (xf := A145) CF145 rfl AO145 CO145
  have he : runX E D (drawW E D) N A145 = F145 E D (drawW E D) N := by funext args σ; exact FE145 E D (drawW E D) N args σ
  rw [he] at h; exact h
theorem CF175 : compF Tryz.prog glob Tryz.f175 = some A175.strip := by kernel_rfl
theorem CO175 : callOk Tryz.prog 175 = true := by kernel_rfl
theorem SF175 (E : List (Nat × Blk)) (D : Den) (hD : ∀ f, SoundFn Tryz.prog E glob f (D f)) (N : Nat) : SoundFn Tryz.prog E glob 175 (F175 E D (drawW E D) N) := by
  have h := runX_ok hD (drawW_ok hD follows) follows N Tryz.func175 (xf := A175) CF175 rfl AO175 CO175
  have he : runX E D (drawW E D) N A175 = F175 E D (drawW E D) N := by funext args σ; exact FE175 E D (drawW E D) N args σ
  rw [he] at h; exact h
theorem CF94 : compF Tryz.prog glob Tryz.f94 = some A94.strip := by kernel_rfl
theorem CO94 : callOk Tryz.prog 94 = true := by kernel_rfl
theorem SF94 (E : List (Nat × Blk)) (D : Den) (hD : ∀ f, SoundFn Tryz.prog E glob f (D f)) (N : Nat) : SoundFn Tryz.prog E glob 94 (F94 E D (drawW E D) N) := by
  have h := runX_ok hD (drawW_ok hD follows) follows N Tryz.func94 (xf := A94) CF94 rfl AO94 CO94
  have he : runX E D (drawW E D) N A94 = F94 E D (drawW E D) N := by funext args σ; exact FE94 E D (drawW E D) N args σ
  rw [he] at h; exact h
theorem CF24 : compF Tryz.prog glob Tryz.f24 = some A24.strip := by kernel_rfl
theorem CO24 : callOk Tryz.prog 24 = true := by kernel_rfl
theorem SF24 (E : List (Nat × Blk)) (D : Den) (hD : ∀ f, SoundFn Tryz.prog E glob f (D f)) (N : Nat) : SoundFn Tryz.prog E glob 24 (F24 E D (drawW E D) N) := by
  have h := runX_ok hD (drawW_ok hD follows) follows N Tryz.func24 (xf := A24) CF24 rfl AO24 CO24
  have he : runX E D (drawW E D) N A24 = F24 E D (drawW E D) N := by funext args σ; exact FE24 E D (drawW E D) N args σ
  rw [he] at h; exact h
theorem CF38 : compF Tryz.prog glob Tryz.f38 = some A38.strip := by kernel_rfl
theorem CO38 : callOk Tryz.prog 38 = true := by kernel_rfl
theorem SF38 (E : List (Nat × Blk)) (D : Den) (hD : ∀ f, SoundFn Tryz.prog E glob f (D f)) (N : Nat) : SoundFn Tryz.prog E glob 38 (F38 E D (drawW E D) N) := by
  have h := runX_ok hD (drawW_ok hD follows) follows N Tryz.func38 (xf := A38) CF38 rfl AO38 CO38
  have he : runX E D (drawW E D) N A38 = F38 E D (drawW E D) N := by funext args σ; exact FE38 E D (drawW E D) N args σ
  rw [he] at h; exact h
theorem CF147 : compF Tryz.prog glob Tryz.f147 = some A147.strip := by kernel_rfl
theorem CO147 : callOk Tryz.prog 147 = true := by kernel_rfl
theorem SF147 (E : List (Nat × Blk)) (D : Den) (hD : ∀ f, SoundFn Tryz.prog E glob f (D f)) (N : Nat) : SoundFn Tryz.prog E glob 147 (F147 E D (drawW E D) N) := by
  have h := runX_ok hD (drawW_ok hD follows) follows N Tryz.func147 (xf := A147) CF147 rfl AO147 CO147
  have he : runX E D (drawW E D) N A147 = F147 E D (drawW E D) N := by funext args σ; exact FE147 E D (drawW E D) N args σ
  rw [he] at h; exact h
theorem CF7 : compF Tryz.prog glob Tryz.f7 = some A7.strip := by kernel_rfl
theorem CO7 : callOk Tryz.prog 7 = true := by kernel_rfl
theorem SF7 (E : List (Nat × Blk)) (D : Den) (hD : ∀ f, SoundFn Tryz.prog E glob f (D f)) (N : Nat) : SoundFn Tryz.prog E glob 7 (F7 E D (drawW E D) N) := by
  have h := runX_ok hD (drawW_ok hD follows) follows N Tryz.func7 (xf := A7) CF7 rfl AO7 CO7
  have he : runX E D (drawW E D) N A7 = F7 E D (drawW E D) N := by funext args σ; exact FE7 E D (drawW E D) N args σ
  rw [he] at h; exact h
theorem CF184 : compF Tryz.prog glob Tryz.f184 = some A184.strip := by kernel_rfl
theorem CO184 : callOk Tryz.prog 184 = true := by kernel_rfl
theorem SF184 (E : List (Nat × Blk)) (D : Den) (hD : ∀ f, SoundFn Tryz.prog E glob f (D f)) (N : Nat) : SoundFn Tryz.prog E glob 184 (F184 E D (drawW E D) N) := by
  have h := runX_ok hD (drawW_ok hD follows) follows N Tryz.func184 (xf := A184) CF184 rfl AO184 CO184
  have he : runX E D (drawW E D) N A184 = F184 E D (drawW E D) N := by funext args σ; exact FE184 E D (drawW E D) N args σ
  rw [he] at h; exact h
theorem CF35 : compF Tryz.prog glob Tryz.f35 = some A35.strip := by kernel_rfl
theorem CO35 : callOk Tryz.prog 35 = true := by kernel_rfl
theorem SF35 (E : List (Nat × Blk)) (D : Den) (hD : ∀ f, SoundFn Tryz.prog E glob f (D f)) (N : Nat) : SoundFn Tryz.prog E glob 35 (F35 E D (drawW E D) N) := by
  have h := runX_ok hD (drawW_ok hD follows) follows N Tryz.func35 (xf := A35) CF35 rfl AO35 CO35
  have he : runX E D (drawW E D) N A35 = F35 E D (drawW E D) N := by funext args σ; exact FE35 E D (drawW E D) N args σ
  rw [he] at h; exact h
theorem CF126 : compF Tryz.prog glob Tryz.f126 = some A126.strip := by kernel_rfl
theorem CO126 : callOk Tryz.prog 126 = true := by kernel_rfl
theorem SF126 (E : List (Nat × Blk)) (D : Den) (hD : ∀ f, SoundFn Tryz.prog E glob f (D f)) (N : Nat) : SoundFn Tryz.prog E glob 126 (F126 E D (drawW E D) N) := by
  have h := runX_ok hD (drawW_ok hD follows) follows N Tryz.func126 (xf := A126) CF126 rfl AO126 CO126
  have he : runX E D (drawW E D) N A126 = F126 E D (drawW E D) N := by funext args σ; exact FE126 E D (drawW E D) N args σ
  rw [he] at h; exact h
theorem CF37 : compF Tryz.prog glob Tryz.f37 = some A37.strip := by kernel_rfl
theorem CO37 : callOk Tryz.prog 37 = true := by kernel_rfl
theorem SF37 (E : List (Nat × Blk)) (D : Den) (hD : ∀ f, SoundFn Tryz.prog E glob f (D f)) (N : Nat) : SoundFn Tryz.prog E glob 37 (F37 E D (drawW E D) N) := by
  have h := runX_ok hD (drawW_ok hD follows) follows N Tryz.func37 (xf := A37) CF37 rfl AO37 CO37
  have he : runX E D (drawW E D) N A37 = F37 E D (drawW E D) N := by funext args σ; exact FE37 E D (drawW E D) N args σ
  rw [he] at h; exact h
theorem CF157 : compF Tryz.prog glob Tryz.f157 = some A157.strip := by kernel_rfl
theorem CO157 : callOk Tryz.prog 157 = true := by kernel_rfl
theorem SF157 (E : List (Nat × Blk)) (D : Den) (hD : ∀ f, SoundFn Tryz.prog E glob f (D f)) (N : Nat) : SoundFn Tryz.prog E glob 157 (F157 E D (drawW E D) N) := by
  have h := runX_ok hD (drawW_ok hD follows) follows N Tryz.func157 (xf := A157) CF157 rfl AO157 CO157
  have he : runX E D (drawW E D) N A157 = F157 E D (drawW E D) N := by funext args σ; exact FE157 E D (drawW E D) N args σ
  rw [he] at h; exact h
theorem CF129 : compF Tryz.prog glob Tryz.f129 = some A129.strip := by kernel_rfl
theorem CO129 : callOk Tryz.prog 129 = true := by kernel_rfl
theorem SF129 (E : List (Nat × Blk)) (D : Den) (hD : ∀ f, SoundFn Tryz.prog E glob f (D f)) (N : Nat) : SoundFn Tryz.prog E glob 129 (F129 E D (drawW E D) N) := by
  have h := runX_ok hD (drawW_ok hD follows) follows N Tryz.func129 (xf := A129) CF129 rfl AO129 CO129
  have he : runX E D (drawW E D) N A129 = F129 E D (drawW E D) N := by funext args σ; exact FE129 E D (drawW E D) N args σ
  rw [he] at h; exact h
theorem CF146 : compF Tryz.prog glob Tryz.f146 = some A146.strip := by kernel_rfl
theorem CO146 : callOk Tryz.prog 146 = true := by kernel_rfl
theorem SF146 (E : List (Nat × Blk)) (D : Den) (hD : ∀ f, SoundFn Tryz.prog E glob f (D f)) (N : Nat) : SoundFn Tryz.prog E glob 146 (F146 E D (drawW E D) N) := by
  have h := runX_ok hD (drawW_ok hD follows) follows N Tryz.func146 (xf := A146) CF146 rfl AO146 CO146
  have he : runX E D (drawW E D) N A146 = F146 E D (drawW E D) N := by funext args σ; exact FE146 E D (drawW E D) N args σ
  rw [he] at h; exact h
theorem CF100 : compF Tryz.prog glob Tryz.f100 = some A100.strip := by kernel_rfl
theorem CO100 : callOk Tryz.prog 100 = true := by kernel_rfl
theorem SF100 (E : List (Nat × Blk)) (D : Den) (hD : ∀ f, SoundFn Tryz.prog E glob f (D f)) (N : Nat) : SoundFn Tryz.prog E glob 100 (F100 E D (drawW E D) N) := by
  have h := runX_ok hD (drawW_ok hD follows) follows N Tryz.func100 (xf := A100) CF100 rfl AO100 CO100
  have he : runX E D (drawW E D) N A100 = F100 E D (drawW E D) N := by funext args σ; exact FE100 E D (drawW E D) N args σ
  rw [he] at h; exact h
theorem CF130 : compF Tryz.prog glob Tryz.f130 = some A130.strip := by kernel_rfl
theorem CO130 : callOk Tryz.prog 130 = true := by kernel_rfl
theorem SF130 (E : List (Nat × Blk)) (D : Den) (hD : ∀ f, SoundFn Tryz.prog E glob f (D f)) (N : Nat) : SoundFn Tryz.prog E glob 130 (F130 E D (drawW E D) N) := by
  have h := runX_ok hD (drawW_ok hD follows) follows N Tryz.func130 (xf := A130) CF130 rfl AO130 CO130
  have he : runX E D (drawW E D) N A130 = F130 E D (drawW E D) N := by funext args σ; exact FE130 E D (drawW E D) N args σ
  rw [he] at h; exact h
theorem CF48 : compF Tryz.prog glob Tryz.f48 = some A48.strip := by kernel_rfl
theorem CO48 : callOk Tryz.prog 48 = true := by kernel_rfl
theorem SF48 (E : List (Nat × Blk)) (D : Den) (hD : ∀ f, SoundFn Tryz.prog E glob f (D f)) (N : Nat) : SoundFn Tryz.prog E glob 48 (F48 E D (drawW E D) N) := by
  have h := runX_ok hD (drawW_ok hD follows) follows N Tryz.func48 (xf := A48) CF48 rfl AO48 CO48
  have he : runX E D (drawW E D) N A48 = F48 E D (drawW E D) N := by funext args σ; exact FE48 E D (drawW E D) N args σ
  rw [he] at h; exact h
theorem CF90 : compF Tryz.prog glob Tryz.f90 = some A90.strip := by kernel_rfl
theorem CO90 : callOk Tryz.prog 90 = true := by kernel_rfl
theorem SF90 (E : List (Nat × Blk)) (D : Den) (hD : ∀ f, SoundFn Tryz.prog E glob f (D f)) (N : Nat) : SoundFn Tryz.prog E glob 90 (F90 E D (drawW E D) N) := by
  have h := runX_ok hD (drawW_ok hD follows) follows N Tryz.func90 (xf := A90) CF90 rfl AO90 CO90
  have he : runX E D (drawW E D) N A90 = F90 E D (drawW E D) N := by funext args σ; exact FE90 E D (drawW E D) N args σ
  rw [he] at h; exact h
theorem CF75 : compF Tryz.prog glob Tryz.f75 = some A75.strip := by kernel_rfl
theorem CO75 : callOk Tryz.prog 75 = true := by kernel_rfl
theorem SF75 (E : List (Nat × Blk)) (D : Den) (hD : ∀ f, SoundFn Tryz.prog E glob f (D f)) (N : Nat) : SoundFn Tryz.prog E glob 75 (F75 E D (drawW E D) N) := by
  have h := runX_ok hD (drawW_ok hD follows) follows N Tryz.func75 (xf := A75) CF75 rfl AO75 CO75
  have he : runX E D (drawW E D) N A75 = F75 E D (drawW E D) N := by funext args σ; exact FE75 E D (drawW E D) N args σ
  rw [he] at h; exact h
theorem CF119 : compF Tryz.prog glob Tryz.f119 = some A119.strip := by kernel_rfl
theorem CO119 : callOk Tryz.prog 119 = true := by kernel_rfl
theorem SF119 (E : List (Nat × Blk)) (D : Den) (hD : ∀ f, SoundFn Tryz.prog E glob f (D f)) (N : Nat) : SoundFn Tryz.prog E glob 119 (F119 E D (drawW E D) N) := by
  have h := runX_ok hD (drawW_ok hD follows) follows N Tryz.func119 (xf := A119) CF119 rfl AO119 CO119
  have he : runX E D (drawW E D) N A119 = F119 E D (drawW E D) N := by funext args σ; exact FE119 E D (drawW E D) N args σ
  rw [he] at h; exact h
theorem CF142 : compF Tryz.prog glob Tryz.f142 = some A142.strip := by kernel_rfl
theorem CO142 : callOk Tryz.prog 142 = true := by kernel_rfl
theorem SF142 (E : List (Nat × Blk)) (D : Den) (hD : ∀ f, SoundFn Tryz.prog E glob f (D f)) (N : Nat) : SoundFn Tryz.prog E glob 142 (F142 E D (drawW E D) N) := by
  have h := runX_ok hD (drawW_ok hD follows) follows N Tryz.func142 (xf := A142) CF142 rfl AO142 CO142
  have he : runX E D (drawW E D) N A142 = F142 E D (drawW E D) N := by funext args σ; exact FE142 E D (drawW E D) N args σ
  rw [he] at h; exact h
def ftab (E : List (Nat × Blk)) (N : Nat) (D : Den) : List (Nat × (List V → H → Ans)) := [(3, F3 E D (drawW E D) N), (115, F115 E D (drawW E D) N), (136, F136 E D (drawW E D) N), (156, F156 E D (drawW E D) N), (40, F40 E D (drawW E D) N), (68, F68 E D (drawW E D) N), (118, F118 E D (drawW E D) N), (101, F101 E D (drawW E D) N), (192, F192 E D (drawW E D) N), (191, F191 E D (drawW E D) N), (96, F96 E D (drawW E D) N), (177, F177 E D (drawW E D) N), (116, F116 E D (drawW E D) N), (87, F87 E D (drawW E D) N), (69, F69 E D (drawW E D) N), (166, F166 E D (drawW E D) N), (123, F123 E D (drawW E D) N), (117, F117 E D (drawW E D) N), (61, F61 E D (drawW E D) N), (66, F66 E D (drawW E D) N), (95, F95 E D (drawW E D) N), (128, F128 E D (drawW E D) N), (71, F71 E D (drawW E D) N), (125, F125 E D (drawW E D) N), (165, F165 E D (drawW E D) N), (107, F107 E D (drawW E D) N), (88, F88 E D (drawW E D) N), (134, F134 E D (drawW E D) N), (108, F108 E D (drawW E D) N), (150, F150 E D (drawW E D) N), (91, F91 E D (drawW E D) N), (6, F6 E D (drawW E D) N), (92, F92 E D (drawW E D) N), (151, F151 E D (drawW E D) N), (86, F86 E D (drawW E D) N), (133, F133 E D (drawW E D) N), (164, F164 E D (drawW E D) N), (44, F44 E D (drawW E D) N), (145, F145 E D (drawW E D) N), (175, F175 E D (drawW E D) N), (94, F94 E D (drawW E D) N), (24, F24 E D (drawW E D) N), (38, F38 E D (drawW E D) N), (147, F147 E D (drawW E D) N), (7, F7 E D (drawW E D) N), (184, F184 E D (drawW E D) N), (35, F35 E D (drawW E D) N), (126, F126 E D (drawW E D) N), (37, F37 E D (drawW E D) N), (157, F157 E D (drawW E D) N), (129, F129 E D (drawW E D) N), (146, F146 E D (drawW E D) N), (100, F100 E D (drawW E D) N), (130, F130 E D (drawW E D) N), (48, F48 E D (drawW E D) N), (90, F90 E D (drawW E D) N), (75, F75 E D (drawW E D) N), (119, F119 E D (drawW E D) N), (142, F142 E D (drawW E D) N)]
def BD (E : List (Nat × Blk)) (N : Nat) (D : Den) : Den := fun f => match lookF (ftab E N D) f with
  | some g => g
  | none => match lookA tab f with
    | some g => runX E D (drawW E D) N g
    | none => fun _ _ => none
theorem BD_ok (E : List (Nat × Blk)) (N : Nat) (D : Den) (hD : ∀ f, SoundFn Tryz.prog E glob f (D f)) (f : FuncId) : SoundFn Tryz.prog E glob f (BD E N D f) := by
  have hall : ∀ p ∈ ftab E N D, SoundFn Tryz.prog E glob p.1 p.2 := by
    unfold ftab
    simp only [List.forall_mem_cons]
    exact ⟨SF3 E _ hD N, SF115 E _ hD N, SF136 E _ hD N, SF156 E _ hD N, SF40 E _ hD N, SF68 E _ hD N, SF118 E _ hD N, SF101 E _ hD N, SF192 E _ hD N, SF191 E _ hD N, SF96 E _ hD N, SF177 E _ hD N, SF116 E _ hD N, SF87 E _ hD N, SF69 E _ hD N, SF166 E _ hD N, SF123 E _ hD N, SF117 E _ hD N, SF61 E _ hD N, SF66 E _ hD N, SF95 E _ hD N, SF128 E _ hD N, SF71 E _ hD N, SF125 E _ hD N, SF165 E _ hD N, SF107 E _ hD N, SF88 E _ hD N, SF134 E _ hD N, SF108 E _ hD N, SF150 E _ hD N, SF91 E _ hD N, SF6 E _ hD N, SF92 E _ hD N, SF151 E _ hD N, SF86 E _ hD N, SF133 E _ hD N, SF164 E _ hD N, SF44 E _ hD N, SF145 E _ hD N, SF175 E _ hD N, SF94 E _ hD N, SF24 E _ hD N, SF38 E _ hD N, SF147 E _ hD N, SF7 E _ hD N, SF184 E _ hD N, SF35 E _ hD N, SF126 E _ hD N, SF37 E _ hD N, SF157 E _ hD N, SF129 E _ hD N, SF146 E _ hD N, SF100 E _ hD N, SF130 E _ hD N, SF48 E _ hD N, SF90 E _ hD N, SF75 E _ hD N, SF119 E _ hD N, SF142 E _ hD N, fun _ h => nomatch h⟩
  unfold BD
  split
  · rename_i g hg
    rw [lookF_eq] at hg
    exact hall _ (look_mem hg)
  · split
    · rename_i g hg
      exact (tab_is _ (lookA_mem _ _ _ hg)).sound E _ hD N
    · intro C _ _ R σ w args xs v σ' h; cases h
def DT (E : List (Nat × Blk)) (N : Nat) (d : Nat) : Den := Nat.rec (fun _ _ _ => none) (fun _ ih => BD E N ih) d
theorem DT_ok (E : List (Nat × Blk)) (N : Nat) : ∀ (d : Nat) (f : FuncId), SoundFn Tryz.prog E glob f (DT E N d f) := by
  intro d
  induction d with
  | zero => intro f C _ _ R σ w args xs v σ' h; cases h
  | succ d ih => exact BD_ok E N _ ih
theorem globLt : ∀ g, glob g = true → g < 8 := fun g hg => by simpa [glob] using hg
end
end Go.Proofs.YthkkkmkcjgaghaaGreatDoor
