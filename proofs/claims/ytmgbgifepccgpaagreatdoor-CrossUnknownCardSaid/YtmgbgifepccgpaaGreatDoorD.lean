/- The code agrees with the program. Printed by a program off the dump. -/
import Derived.Test.YtmgbgifepccgpaaGreatDoorS0
import Derived.Test.YtmgbgifepccgpaaGreatDoorS1
import Derived.Test.YtmgbgifepccgpaaGreatDoorS2
import Derived.Test.YtmgbgifepccgpaaGreatDoorS3
import Derived.Test.YtmgbgifepccgpaaGreatDoorProg
import Derived.Test.YtmgbgifepccgpaaGreatDoorOgZ
set_option linter.all false
set_option maxRecDepth 100000
set_option maxHeartbeats 0
namespace Go.Proofs.YtmgbgifepccgpaaGreatDoor
open Go Go.Og
noncomputable section
def glob : Nat → Bool := fun g => Nat.blt g 2
theorem follows : Tryz.prog.follows .mixedOrders = true := by kernel_rfl
def Is (f : Nat) (A : XFn) : Prop := ∃ fn, Tryz.prog.funcs[f]? = some fn ∧ compF Tryz.prog glob fn = some A.strip ∧ A.body.ok = true ∧ callOk Tryz.prog f = true
theorem Is.sound {f : Nat} {A : XFn} (h : Is f A) (E : List (Nat × Blk)) (D : Den) (hD : ∀ f, SoundFn Tryz.prog E glob f (D f)) (N : Nat) : SoundFn Tryz.prog E glob f (runX E D (drawW E D) N A) :=
  let ⟨_, h1, h2, h3, h4⟩ := h
  runX_ok hD (drawW_ok hD follows) follows N h1 h2 rfl h3 h4
def tab : List (Nat × XFn) := [(4, A4), (5, A5), (8, A8), (9, A9), (10, A10), (11, A11), (14, A14), (15, A15), (18, A18), (22, A22), (23, A23), (24, A24), (31, A31), (32, A32), (33, A33), (38, A38), (39, A39), (40, A40), (42, A42), (43, A43), (44, A44), (46, A46), (47, A47), (48, A48), (51, A51), (52, A52), (53, A53), (54, A54), (55, A55), (56, A56), (57, A57), (58, A58), (59, A59), (60, A60), (63, A63), (64, A64), (66, A66), (69, A69), (70, A70), (73, A73), (75, A75), (79, A79), (81, A81), (82, A82), (83, A83), (85, A85), (86, A86), (87, A87), (88, A88), (89, A89), (100, A100), (102, A102), (103, A103), (116, A116), (117, A117), (119, A119), (120, A120), (121, A121), (122, A122), (125, A125), (135, A135), (136, A136), (138, A138), (139, A139), (146, A146), (148, A148), (149, A149), (151, A151), (153, A153), (158, A158), (166, A166), (167, A167), (169, A169), (185, A185), (187, A187), (189, A189), (192, A192), (206, A206), (219, A219), (220, A220), (221, A221), (231, A231), (232, A232), (233, A233), (249, A249), (251, A251), (264, A264), (265, A265), (266, A266), (270, A270), (271, A271), (276, A276), (282, A282)]
theorem tab_is : ∀ p ∈ tab, Is p.1 p.2 := by
  unfold tab
  simp only [List.forall_mem_cons]
  exact ⟨⟨_, Tryz.func4, by kernel_rfl, by kernel_rfl, by kernel_rfl⟩,
    ⟨_, Tryz.func5, by kernel_rfl, by kernel_rfl, by kernel_rfl⟩,
    ⟨_, Tryz.func8, by kernel_rfl, by kernel_rfl, by kernel_rfl⟩,
    ⟨_, Tryz.func9, by kernel_rfl, by kernel_rfl, by kernel_rfl⟩,
    ⟨_, Tryz.func10, by kernel_rfl, by kernel_rfl, by kernel_rfl⟩,
    ⟨_, Tryz.func11, by kernel_rfl, by kernel_rfl, by kernel_rfl⟩,
    ⟨_, Tryz.func14, by kernel_rfl, by kernel_rfl, by kernel_rfl⟩,
    ⟨_, Tryz.func15, by kernel_rfl, by kernel_rfl, by kernel_rfl⟩,
    ⟨_, Tryz.func18, by kernel_rfl, by kernel_rfl, by kernel_rfl⟩,
    ⟨_, Tryz.func22, by kernel_rfl, by kernel_rfl, by kernel_rfl⟩,
    ⟨_, Tryz.func23, by kernel_rfl, by kernel_rfl, by kernel_rfl⟩,
    ⟨_, Tryz.func24, by kernel_rfl, by kernel_rfl, by kernel_rfl⟩,
    ⟨_, Tryz.func31, by kernel_rfl, by kernel_rfl, by kernel_rfl⟩,
    ⟨_, Tryz.func32, by kernel_rfl, by kernel_rfl, by kernel_rfl⟩,
    ⟨_, Tryz.func33, by kernel_rfl, by kernel_rfl, by kernel_rfl⟩,
    ⟨_, Tryz.func38, by kernel_rfl, by kernel_rfl, by kernel_rfl⟩,
    ⟨_, Tryz.func39, by kernel_rfl, by kernel_rfl, by kernel_rfl⟩,
    ⟨_, Tryz.func40, by kernel_rfl, by kernel_rfl, by kernel_rfl⟩,
    ⟨_, Tryz.func42, by kernel_rfl, by kernel_rfl, by kernel_rfl⟩,
    ⟨_, Tryz.func43, by kernel_rfl, by kernel_rfl, by kernel_rfl⟩,
    ⟨_, Tryz.func44, by kernel_rfl, by kernel_rfl, by kernel_rfl⟩,
    ⟨_, Tryz.func46, by kernel_rfl, by kernel_rfl, by kernel_rfl⟩,
    ⟨_, Tryz.func47, by kernel_rfl, by kernel_rfl, by kernel_rfl⟩,
    ⟨_, Tryz.func48, by kernel_rfl, by kernel_rfl, by kernel_rfl⟩,
    ⟨_, Tryz.func51, by kernel_rfl, by kernel_rfl, by kernel_rfl⟩,
    ⟨_, Tryz.func52, by kernel_rfl, by kernel_rfl, by kernel_rfl⟩,
    ⟨_, Tryz.func53, by kernel_rfl, by kernel_rfl, by kernel_rfl⟩,
    ⟨_, Tryz.func54, by kernel_rfl, by kernel_rfl, by kernel_rfl⟩,
    ⟨_, Tryz.func55, by kernel_rfl, by kernel_rfl, by kernel_rfl⟩,
    ⟨_, Tryz.func56, by kernel_rfl, by kernel_rfl, by kernel_rfl⟩,
    ⟨_, Tryz.func57, by kernel_rfl, by kernel_rfl, by kernel_rfl⟩,
    ⟨_, Tryz.func58, by kernel_rfl, by kernel_rfl, by kernel_rfl⟩,
    ⟨_, Tryz.func59, by kernel_rfl, by kernel_rfl, by kernel_rfl⟩,
    ⟨_, Tryz.func60, by kernel_rfl, by kernel_rfl, by kernel_rfl⟩,
    ⟨_, Tryz.func63, by kernel_rfl, by kernel_rfl, by kernel_rfl⟩,
    ⟨_, Tryz.func64, by kernel_rfl, by kernel_rfl, by kernel_rfl⟩,
    ⟨_, Tryz.func66, by kernel_rfl, by kernel_rfl, by kernel_rfl⟩,
    ⟨_, Tryz.func69, by kernel_rfl, by kernel_rfl, by kernel_rfl⟩,
    ⟨_, Tryz.func70, by kernel_rfl, by kernel_rfl, by kernel_rfl⟩,
    ⟨_, Tryz.func73, by kernel_rfl, by kernel_rfl, by kernel_rfl⟩,
    ⟨_, Tryz.func75, by kernel_rfl, by kernel_rfl, by kernel_rfl⟩,
    ⟨_, Tryz.func79, by kernel_rfl, by kernel_rfl, by kernel_rfl⟩,
    ⟨_, Tryz.func81, by kernel_rfl, by kernel_rfl, by kernel_rfl⟩,
    ⟨_, Tryz.func82, by kernel_rfl, by kernel_rfl, by kernel_rfl⟩,
    ⟨_, Tryz.func83, by kernel_rfl, by kernel_rfl, by kernel_rfl⟩,
    ⟨_, Tryz.func85, by kernel_rfl, by kernel_rfl, by kernel_rfl⟩,
    ⟨_, Tryz.func86, by kernel_rfl, by kernel_rfl, by kernel_rfl⟩,
    ⟨_, Tryz.func87, by kernel_rfl, by kernel_rfl, by kernel_rfl⟩,
    ⟨_, Tryz.func88, by kernel_rfl, by kernel_rfl, by kernel_rfl⟩,
    ⟨_, Tryz.func89, by kernel_rfl, by kernel_rfl, by kernel_rfl⟩,
    ⟨_, Tryz.func100, by kernel_rfl, by kernel_rfl, by kernel_rfl⟩,
    ⟨_, Tryz.func102, by kernel_rfl, by kernel_rfl, by kernel_rfl⟩,
    ⟨_, Tryz.func103, by kernel_rfl, by kernel_rfl, by kernel_rfl⟩,
    ⟨_, Tryz.func116, by kernel_rfl, by kernel_rfl, by kernel_rfl⟩,
    ⟨_, Tryz.func117, by kernel_rfl, by kernel_rfl, by kernel_rfl⟩,
    ⟨_, Tryz.func119, by kernel_rfl, by kernel_rfl, by kernel_rfl⟩,
    ⟨_, Tryz.func120, by kernel_rfl, by kernel_rfl, by kernel_rfl⟩,
    ⟨_, Tryz.func121, by kernel_rfl, by kernel_rfl, by kernel_rfl⟩,
    ⟨_, Tryz.func122, by kernel_rfl, by kernel_rfl, by kernel_rfl⟩,
    ⟨_, Tryz.func125, by kernel_rfl, by kernel_rfl, by kernel_rfl⟩,
    ⟨_, Tryz.func135, by kernel_rfl, by kernel_rfl, by kernel_rfl⟩,
    ⟨_, Tryz.func136, by kernel_rfl, by kernel_rfl, by kernel_rfl⟩,
    ⟨_, Tryz.func138, by kernel_rfl, by kernel_rfl, by kernel_rfl⟩,
    ⟨_, Tryz.func139, by kernel_rfl, by kernel_rfl, by kernel_rfl⟩,
    ⟨_, Tryz.func146, by kernel_rfl, by kernel_rfl, by kernel_rfl⟩,
    ⟨_, Tryz.func148, by kernel_rfl, by kernel_rfl, by kernel_rfl⟩,
    ⟨_, Tryz.func149, by kernel_rfl, by kernel_rfl, by kernel_rfl⟩,
    ⟨_, Tryz.func151, by kernel_rfl, by kernel_rfl, by kernel_rfl⟩,
    ⟨_, Tryz.func153, by kernel_rfl, by kernel_rfl, by kernel_rfl⟩,
    ⟨_, Tryz.func158, by kernel_rfl, by kernel_rfl, by kernel_rfl⟩,
    ⟨_, Tryz.func166, by kernel_rfl, by kernel_rfl, by kernel_rfl⟩,
    ⟨_, Tryz.func167, by kernel_rfl, by kernel_rfl, by kernel_rfl⟩,
    ⟨_, Tryz.func169, by kernel_rfl, by kernel_rfl, by kernel_rfl⟩,
    ⟨_, Tryz.func185, by kernel_rfl, by kernel_rfl, by kernel_rfl⟩,
    ⟨_, Tryz.func187, by kernel_rfl, by kernel_rfl, by kernel_rfl⟩,
    ⟨_, Tryz.func189, by kernel_rfl, by kernel_rfl, by kernel_rfl⟩,
    ⟨_, Tryz.func192, by kernel_rfl, by kernel_rfl, by kernel_rfl⟩,
    ⟨_, Tryz.func206, by kernel_rfl, by kernel_rfl, by kernel_rfl⟩,
    ⟨_, Tryz.func219, by kernel_rfl, by kernel_rfl, by kernel_rfl⟩,
    ⟨_, Tryz.func220, by kernel_rfl, by kernel_rfl, by kernel_rfl⟩,
    ⟨_, Tryz.func221, by kernel_rfl, by kernel_rfl, by kernel_rfl⟩,
    ⟨_, Tryz.func231, by kernel_rfl, by kernel_rfl, by kernel_rfl⟩,
    ⟨_, Tryz.func232, by kernel_rfl, by kernel_rfl, by kernel_rfl⟩,
    ⟨_, Tryz.func233, by kernel_rfl, by kernel_rfl, by kernel_rfl⟩,
    ⟨_, Tryz.func249, by kernel_rfl, by kernel_rfl, by kernel_rfl⟩,
    ⟨_, Tryz.func251, by kernel_rfl, by kernel_rfl, by kernel_rfl⟩,
    ⟨_, Tryz.func264, by kernel_rfl, by kernel_rfl, by kernel_rfl⟩,
    ⟨_, Tryz.func265, by kernel_rfl, by kernel_rfl, by kernel_rfl⟩,
    ⟨_, Tryz.func266, by kernel_rfl, by kernel_rfl, by kernel_rfl⟩,
    ⟨_, Tryz.func270, by kernel_rfl, by kernel_rfl, by kernel_rfl⟩,
    ⟨_, Tryz.func271, by kernel_rfl, by kernel_rfl, by kernel_rfl⟩,
    ⟨_, Tryz.func276, by kernel_rfl, by kernel_rfl, by kernel_rfl⟩,
    ⟨_, Tryz.func282, by kernel_rfl, by kernel_rfl, by kernel_rfl⟩, fun _ h => by cases h⟩
def lookA : List (Nat × XFn) → Nat → Option XFn := fun l n => List.rec none (fun p _ ih => match Nat.beq p.1 n with | true => some p.2 | false => ih) l
theorem lookA_mem : ∀ (l : List (Nat × XFn)) (n : Nat) (g : XFn), lookA l n = some g → (n, g) ∈ l
  | [], n, g, h => by cases h
  | p :: l, n, g, h => by
    have h' : (match Nat.beq p.1 n with | true => some p.2 | false => lookA l n) = some g := h
    cases hb : Nat.beq p.1 n with
    | true =>
      rw [hb] at h'
      simp only [Option.some.injEq] at h'
      have := Nat.eq_of_beq_eq_true hb
      subst this; subst h'
      exact List.mem_cons_self
    | false =>
      rw [hb] at h'
      exact List.mem_cons_of_mem _ (lookA_mem l n g h')
theorem CF3 : compF Tryz.prog glob Tryz.f3 = some A3.strip := by kernel_rfl
theorem CO3 : callOk Tryz.prog 3 = true := by kernel_rfl
theorem SF3 (E : List (Nat × Blk)) (D : Den) (hD : ∀ f, SoundFn Tryz.prog E glob f (D f)) (N : Nat) : SoundFn Tryz.prog E glob 3 (F3 E D (drawW E D) N) := by
  have h := runX_ok hD (drawW_ok hD follows) follows N Tryz.func3 (xf := A3) CF3 rfl AO3 CO3
  have he : runX E D (drawW E D) N A3 = F3 E D (drawW E D) N := by funext args σ; exact FE3 E D (drawW E D) N args σ
  rw [he] at h; exact h
theorem CF78 : compF Tryz.prog glob Tryz.f78 = some A78.strip := by kernel_rfl
theorem CO78 : callOk Tryz.prog 78 = true := by kernel_rfl
theorem SF78 (E : List (Nat × Blk)) (D : Den) (hD : ∀ f, SoundFn Tryz.prog E glob f (D f)) (N : Nat) : SoundFn Tryz.prog E glob 78 (F78 E D (drawW E D) N) := by
  have h := runX_ok hD (drawW_ok hD follows) follows N Tryz.func78 (xf := A78) CF78 rfl AO78 CO78
  have he : runX E D (drawW E D) N A78 = F78 E D (drawW E D) N := by funext args σ; exact FE78 E D (drawW E D) N args σ
  rw [he] at h; exact h
theorem CF41 : compF Tryz.prog glob Tryz.f41 = some A41.strip := by kernel_rfl
theorem CO41 : callOk Tryz.prog 41 = true := by kernel_rfl
theorem SF41 (E : List (Nat × Blk)) (D : Den) (hD : ∀ f, SoundFn Tryz.prog E glob f (D f)) (N : Nat) : SoundFn Tryz.prog E glob 41 (F41 E D (drawW E D) N) := by
  have h := runX_ok hD (drawW_ok hD follows) follows N Tryz.func41 (xf := A41) CF41 rfl AO41 CO41
  have he : runX E D (drawW E D) N A41 = F41 E D (drawW E D) N := by funext args σ; exact FE41 E D (drawW E D) N args σ
  rw [he] at h; exact h
theorem CF137 : compF Tryz.prog glob Tryz.f137 = some A137.strip := by kernel_rfl
theorem CO137 : callOk Tryz.prog 137 = true := by kernel_rfl
theorem SF137 (E : List (Nat × Blk)) (D : Den) (hD : ∀ f, SoundFn Tryz.prog E glob f (D f)) (N : Nat) : SoundFn Tryz.prog E glob 137 (F137 E D (drawW E D) N) := by
  have h := runX_ok hD (drawW_ok hD follows) follows N Tryz.func137 (xf := A137) CF137 rfl AO137 CO137
  have he : runX E D (drawW E D) N A137 = F137 E D (drawW E D) N := by funext args σ; exact FE137 E D (drawW E D) N args σ
  rw [he] at h; exact h
theorem CF35 : compF Tryz.prog glob Tryz.f35 = some A35.strip := by kernel_rfl
theorem CO35 : callOk Tryz.prog 35 = true := by kernel_rfl
theorem SF35 (E : List (Nat × Blk)) (D : Den) (hD : ∀ f, SoundFn Tryz.prog E glob f (D f)) (N : Nat) : SoundFn Tryz.prog E glob 35 (F35 E D (drawW E D) N) := by
  have h := runX_ok hD (drawW_ok hD follows) follows N Tryz.func35 (xf := A35) CF35 rfl AO35 CO35
  have he : runX E D (drawW E D) N A35 = F35 E D (drawW E D) N := by funext args σ; exact FE35 E D (drawW E D) N args σ
  rw [he] at h; exact h
theorem CF36 : compF Tryz.prog glob Tryz.f36 = some A36.strip := by kernel_rfl
theorem CO36 : callOk Tryz.prog 36 = true := by kernel_rfl
theorem SF36 (E : List (Nat × Blk)) (D : Den) (hD : ∀ f, SoundFn Tryz.prog E glob f (D f)) (N : Nat) : SoundFn Tryz.prog E glob 36 (F36 E D (drawW E D) N) := by
  have h := runX_ok hD (drawW_ok hD follows) follows N Tryz.func36 (xf := A36) CF36 rfl AO36 CO36
  have he : runX E D (drawW E D) N A36 = F36 E D (drawW E D) N := by funext args σ; exact FE36 E D (drawW E D) N args σ
  rw [he] at h; exact h
theorem CF275 : compF Tryz.prog glob Tryz.f275 = some A275.strip := by kernel_rfl
theorem CO275 : callOk Tryz.prog 275 = true := by kernel_rfl
theorem SF275 (E : List (Nat × Blk)) (D : Den) (hD : ∀ f, SoundFn Tryz.prog E glob f (D f)) (N : Nat) : SoundFn Tryz.prog E glob 275 (F275 E D (drawW E D) N) := by
  have h := runX_ok hD (drawW_ok hD follows) follows N Tryz.func275 (xf := A275) CF275 rfl AO275 CO275
  have he : runX E D (drawW E D) N A275 = F275 E D (drawW E D) N := by funext args σ; exact FE275 E D (drawW E D) N args σ
  rw [he] at h; exact h
theorem CF19 : compF Tryz.prog glob Tryz.f19 = some A19.strip := by kernel_rfl
theorem CO19 : callOk Tryz.prog 19 = true := by kernel_rfl
theorem SF19 (E : List (Nat × Blk)) (D : Den) (hD : ∀ f, SoundFn Tryz.prog E glob f (D f)) (N : Nat) : SoundFn Tryz.prog E glob 19 (F19 E D (drawW E D) N) := by
  have h := runX_ok hD (drawW_ok hD follows) follows N Tryz.func19 (xf := A19) CF19 rfl AO19 CO19
  have he : runX E D (drawW E D) N A19 = F19 E D (drawW E D) N := by funext args σ; exact FE19 E D (drawW E D) N args σ
  rw [he] at h; exact h
theorem CF72 : compF Tryz.prog glob Tryz.f72 = some A72.strip := by kernel_rfl
theorem CO72 : callOk Tryz.prog 72 = true := by kernel_rfl
theorem SF72 (E : List (Nat × Blk)) (D : Den) (hD : ∀ f, SoundFn Tryz.prog E glob f (D f)) (N : Nat) : SoundFn Tryz.prog E glob 72 (F72 E D (drawW E D) N) := by
  have h := runX_ok hD (drawW_ok hD follows) follows N Tryz.func72 (xf := A72) CF72 rfl AO72 CO72
  have he : runX E D (drawW E D) N A72 = F72 E D (drawW E D) N := by funext args σ; exact FE72 E D (drawW E D) N args σ
  rw [he] at h; exact h
theorem CF71 : compF Tryz.prog glob Tryz.f71 = some A71.strip := by kernel_rfl
theorem CO71 : callOk Tryz.prog 71 = true := by kernel_rfl
theorem SF71 (E : List (Nat × Blk)) (D : Den) (hD : ∀ f, SoundFn Tryz.prog E glob f (D f)) (N : Nat) : SoundFn Tryz.prog E glob 71 (F71 E D (drawW E D) N) := by
  have h := runX_ok hD (drawW_ok hD follows) follows N Tryz.func71 (xf := A71) CF71 rfl AO71 CO71
  have he : runX E D (drawW E D) N A71 = F71 E D (drawW E D) N := by funext args σ; exact FE71 E D (drawW E D) N args σ
  rw [he] at h; exact h
theorem CF101 : compF Tryz.prog glob Tryz.f101 = some A101.strip := by kernel_rfl
theorem CO101 : callOk Tryz.prog 101 = true := by kernel_rfl
theorem SF101 (E : List (Nat × Blk)) (D : Den) (hD : ∀ f, SoundFn Tryz.prog E glob f (D f)) (N : Nat) : SoundFn Tryz.prog E glob 101 (F101 E D (drawW E D) N) := by
  have h := runX_ok hD (drawW_ok hD follows) follows N Tryz.func101 (xf := A101) CF101 rfl AO101 CO101
  have he : runX E D (drawW E D) N A101 = F101 E D (drawW E D) N := by funext args σ; exact FE101 E D (drawW E D) N args σ
  rw [he] at h; exact h
theorem CF37 : compF Tryz.prog glob Tryz.f37 = some A37.strip := by kernel_rfl
theorem CO37 : callOk Tryz.prog 37 = true := by kernel_rfl
theorem SF37 (E : List (Nat × Blk)) (D : Den) (hD : ∀ f, SoundFn Tryz.prog E glob f (D f)) (N : Nat) : SoundFn Tryz.prog E glob 37 (F37 E D (drawW E D) N) := by
  have h := runX_ok hD (drawW_ok hD follows) follows N Tryz.func37 (xf := A37) CF37 rfl AO37 CO37
  have he : runX E D (drawW E D) N A37 = F37 E D (drawW E D) N := by funext args σ; exact FE37 E D (drawW E D) N args σ
  rw [he] at h; exact h
theorem CF164 : compF Tryz.prog glob Tryz.f164 = some A164.strip := by kernel_rfl
theorem CO164 : callOk Tryz.prog 164 = true := by kernel_rfl
theorem SF164 (E : List (Nat × Blk)) (D : Den) (hD : ∀ f, SoundFn Tryz.prog E glob f (D f)) (N : Nat) : SoundFn Tryz.prog E glob 164 (F164 E D (drawW E D) N) := by
  have h := runX_ok hD (drawW_ok hD follows) follows N Tryz.func164 (xf := A164) CF164 rfl AO164 CO164
  have he : runX E D (drawW E D) N A164 = F164 E D (drawW E D) N := by funext args σ; exact FE164 E D (drawW E D) N args σ
  rw [he] at h; exact h
theorem CF20 : compF Tryz.prog glob Tryz.f20 = some A20.strip := by kernel_rfl
theorem CO20 : callOk Tryz.prog 20 = true := by kernel_rfl
theorem SF20 (E : List (Nat × Blk)) (D : Den) (hD : ∀ f, SoundFn Tryz.prog E glob f (D f)) (N : Nat) : SoundFn Tryz.prog E glob 20 (F20 E D (drawW E D) N) := by
  have h := runX_ok hD (drawW_ok hD follows) follows N Tryz.func20 (xf := A20) CF20 rfl AO20 CO20
  have he : runX E D (drawW E D) N A20 = F20 E D (drawW E D) N := by funext args σ; exact FE20 E D (drawW E D) N args σ
  rw [he] at h; exact h
theorem CF16 : compF Tryz.prog glob Tryz.f16 = some A16.strip := by kernel_rfl
theorem CO16 : callOk Tryz.prog 16 = true := by kernel_rfl
theorem SF16 (E : List (Nat × Blk)) (D : Den) (hD : ∀ f, SoundFn Tryz.prog E glob f (D f)) (N : Nat) : SoundFn Tryz.prog E glob 16 (F16 E D (drawW E D) N) := by
  have h := runX_ok hD (drawW_ok hD follows) follows N Tryz.func16 (xf := A16) CF16 rfl AO16 CO16
  have he : runX E D (drawW E D) N A16 = F16 E D (drawW E D) N := by funext args σ; exact FE16 E D (drawW E D) N args σ
  rw [he] at h; exact h
theorem CF61 : compF Tryz.prog glob Tryz.f61 = some A61.strip := by kernel_rfl
theorem CO61 : callOk Tryz.prog 61 = true := by kernel_rfl
theorem SF61 (E : List (Nat × Blk)) (D : Den) (hD : ∀ f, SoundFn Tryz.prog E glob f (D f)) (N : Nat) : SoundFn Tryz.prog E glob 61 (F61 E D (drawW E D) N) := by
  have h := runX_ok hD (drawW_ok hD follows) follows N Tryz.func61 (xf := A61) CF61 rfl AO61 CO61
  have he : runX E D (drawW E D) N A61 = F61 E D (drawW E D) N := by funext args σ; exact FE61 E D (drawW E D) N args σ
  rw [he] at h; exact h
theorem CF258 : compF Tryz.prog glob Tryz.f258 = some A258.strip := by kernel_rfl
theorem CO258 : callOk Tryz.prog 258 = true := by kernel_rfl
theorem SF258 (E : List (Nat × Blk)) (D : Den) (hD : ∀ f, SoundFn Tryz.prog E glob f (D f)) (N : Nat) : SoundFn Tryz.prog E glob 258 (F258 E D (drawW E D) N) := by
  have h := runX_ok hD (drawW_ok hD follows) follows N Tryz.func258 (xf := A258) CF258 rfl AO258 CO258
  have he : runX E D (drawW E D) N A258 = F258 E D (drawW E D) N := by funext args σ; exact FE258 E D (drawW E D) N args σ
  rw [he] at h; exact h
theorem CF230 : compF Tryz.prog glob Tryz.f230 = some A230.strip := by kernel_rfl
theorem CO230 : callOk Tryz.prog 230 = true := by kernel_rfl
theorem SF230 (E : List (Nat × Blk)) (D : Den) (hD : ∀ f, SoundFn Tryz.prog E glob f (D f)) (N : Nat) : SoundFn Tryz.prog E glob 230 (F230 E D (drawW E D) N) := by
  have h := runX_ok hD (drawW_ok hD follows) follows N Tryz.func230 (xf := A230) CF230 rfl AO230 CO230
  have he : runX E D (drawW E D) N A230 = F230 E D (drawW E D) N := by funext args σ; exact FE230 E D (drawW E D) N args σ
  rw [he] at h; exact h
theorem CF143 : compF Tryz.prog glob Tryz.f143 = some A143.strip := by kernel_rfl
theorem CO143 : callOk Tryz.prog 143 = true := by kernel_rfl
theorem SF143 (E : List (Nat × Blk)) (D : Den) (hD : ∀ f, SoundFn Tryz.prog E glob f (D f)) (N : Nat) : SoundFn Tryz.prog E glob 143 (F143 E D (drawW E D) N) := by
  have h := runX_ok hD (drawW_ok hD follows) follows N Tryz.func143 (xf := A143) CF143 rfl AO143 CO143
  have he : runX E D (drawW E D) N A143 = F143 E D (drawW E D) N := by funext args σ; exact FE143 E D (drawW E D) N args σ
  rw [he] at h; exact h
theorem CF152 : compF Tryz.prog glob Tryz.f152 = some A152.strip := by kernel_rfl
theorem CO152 : callOk Tryz.prog 152 = true := by kernel_rfl
theorem SF152 (E : List (Nat × Blk)) (D : Den) (hD : ∀ f, SoundFn Tryz.prog E glob f (D f)) (N : Nat) : SoundFn Tryz.prog E glob 152 (F152 E D (drawW E D) N) := by
  have h := runX_ok hD (drawW_ok hD follows) follows N Tryz.func152 (xf := A152) CF152 rfl AO152 CO152
  have he : runX E D (drawW E D) N A152 = F152 E D (drawW E D) N := by funext args σ; exact FE152 E D (drawW E D) N args σ
  rw [he] at h; exact h
theorem CF7 : compF Tryz.prog glob Tryz.f7 = some A7.strip := by kernel_rfl
theorem CO7 : callOk Tryz.prog 7 = true := by kernel_rfl
theorem SF7 (E : List (Nat × Blk)) (D : Den) (hD : ∀ f, SoundFn Tryz.prog E glob f (D f)) (N : Nat) : SoundFn Tryz.prog E glob 7 (F7 E D (drawW E D) N) := by
  have h := runX_ok hD (drawW_ok hD follows) follows N Tryz.func7 (xf := A7) CF7 rfl AO7 CO7
  have he : runX E D (drawW E D) N A7 = F7 E D (drawW E D) N := by funext args σ; exact FE7 E D (drawW E D) N args σ
  rw [he] at h; exact h
theorem CF207 : compF Tryz.prog glob Tryz.f207 = some A207.strip := by kernel_rfl
theorem CO207 : callOk Tryz.prog 207 = true := by kernel_rfl
theorem SF207 (E : List (Nat × Blk)) (D : Den) (hD : ∀ f, SoundFn Tryz.prog E glob f (D f)) (N : Nat) : SoundFn Tryz.prog E glob 207 (F207 E D (drawW E D) N) := by
  have h := runX_ok hD (drawW_ok hD follows) follows N Tryz.func207 (xf := A207) CF207 rfl AO207 CO207
  have he : runX E D (drawW E D) N A207 = F207 E D (drawW E D) N := by funext args σ; exact FE207 E D (drawW E D) N args σ
  rw [he] at h; exact h
theorem CF208 : compF Tryz.prog glob Tryz.f208 = some A208.strip := by kernel_rfl
theorem CO208 : callOk Tryz.prog 208 = true := by kernel_rfl
theorem SF208 (E : List (Nat × Blk)) (D : Den) (hD : ∀ f, SoundFn Tryz.prog E glob f (D f)) (N : Nat) : SoundFn Tryz.prog E glob 208 (F208 E D (drawW E D) N) := by
  have h := runX_ok hD (drawW_ok hD follows) follows N Tryz.func208 (xf := A208) CF208 rfl AO208 CO208
  have he : runX E D (drawW E D) N A208 = F208 E D (drawW E D) N := by funext args σ; exact FE208 E D (drawW E D) N args σ
  rw [he] at h; exact h
theorem CF134 : compF Tryz.prog glob Tryz.f134 = some A134.strip := by kernel_rfl
theorem CO134 : callOk Tryz.prog 134 = true := by kernel_rfl
theorem SF134 (E : List (Nat × Blk)) (D : Den) (hD : ∀ f, SoundFn Tryz.prog E glob f (D f)) (N : Nat) : SoundFn Tryz.prog E glob 134 (F134 E D (drawW E D) N) := by
  have h := runX_ok hD (drawW_ok hD follows) follows N Tryz.func134 (xf := A134) CF134 rfl AO134 CO134
  have he : runX E D (drawW E D) N A134 = F134 E D (drawW E D) N := by funext args σ; exact FE134 E D (drawW E D) N args σ
  rw [he] at h; exact h
theorem CF123 : compF Tryz.prog glob Tryz.f123 = some A123.strip := by kernel_rfl
theorem CO123 : callOk Tryz.prog 123 = true := by kernel_rfl
theorem SF123 (E : List (Nat × Blk)) (D : Den) (hD : ∀ f, SoundFn Tryz.prog E glob f (D f)) (N : Nat) : SoundFn Tryz.prog E glob 123 (F123 E D (drawW E D) N) := by
  have h := runX_ok hD (drawW_ok hD follows) follows N Tryz.func123 (xf := A123) CF123 rfl AO123 CO123
  have he : runX E D (drawW E D) N A123 = F123 E D (drawW E D) N := by funext args σ; exact FE123 E D (drawW E D) N args σ
  rw [he] at h; exact h
theorem CF248 : compF Tryz.prog glob Tryz.f248 = some A248.strip := by kernel_rfl
theorem CO248 : callOk Tryz.prog 248 = true := by kernel_rfl
theorem SF248 (E : List (Nat × Blk)) (D : Den) (hD : ∀ f, SoundFn Tryz.prog E glob f (D f)) (N : Nat) : SoundFn Tryz.prog E glob 248 (F248 E D (drawW E D) N) := by
  have h := runX_ok hD (drawW_ok hD follows) follows N Tryz.func248 (xf := A248) CF248 rfl AO248 CO248
  have he : runX E D (drawW E D) N A248 = F248 E D (drawW E D) N := by funext args σ; exact FE248 E D (drawW E D) N args σ
  rw [he] at h; exact h
theorem CF165 : compF Tryz.prog glob Tryz.f165 = some A165.strip := by kernel_rfl
theorem CO165 : callOk Tryz.prog 165 = true := by kernel_rfl
theorem SF165 (E : List (Nat × Blk)) (D : Den) (hD : ∀ f, SoundFn Tryz.prog E glob f (D f)) (N : Nat) : SoundFn Tryz.prog E glob 165 (F165 E D (drawW E D) N) := by
  have h := runX_ok hD (drawW_ok hD follows) follows N Tryz.func165 (xf := A165) CF165 rfl AO165 CO165
  have he : runX E D (drawW E D) N A165 = F165 E D (drawW E D) N := by funext args σ; exact FE165 E D (drawW E D) N args σ
  rw [he] at h; exact h
theorem CF49 : compF Tryz.prog glob Tryz.f49 = some A49.strip := by kernel_rfl
theorem CO49 : callOk Tryz.prog 49 = true := by kernel_rfl
theorem SF49 (E : List (Nat × Blk)) (D : Den) (hD : ∀ f, SoundFn Tryz.prog E glob f (D f)) (N : Nat) : SoundFn Tryz.prog E glob 49 (F49 E D (drawW E D) N) := by
  have h := runX_ok hD (drawW_ok hD follows) follows N Tryz.func49 (xf := A49) CF49 rfl AO49 CO49
  have he : runX E D (drawW E D) N A49 = F49 E D (drawW E D) N := by funext args σ; exact FE49 E D (drawW E D) N args σ
  rw [he] at h; exact h
theorem CF154 : compF Tryz.prog glob Tryz.f154 = some A154.strip := by kernel_rfl
theorem CO154 : callOk Tryz.prog 154 = true := by kernel_rfl
theorem SF154 (E : List (Nat × Blk)) (D : Den) (hD : ∀ f, SoundFn Tryz.prog E glob f (D f)) (N : Nat) : SoundFn Tryz.prog E glob 154 (F154 E D (drawW E D) N) := by
  have h := runX_ok hD (drawW_ok hD follows) follows N Tryz.func154 (xf := A154) CF154 rfl AO154 CO154
  have he : runX E D (drawW E D) N A154 = F154 E D (drawW E D) N := by funext args σ; exact FE154 E D (drawW E D) N args σ
  rw [he] at h; exact h
theorem CF27 : compF Tryz.prog glob Tryz.f27 = some A27.strip := by kernel_rfl
theorem CO27 : callOk Tryz.prog 27 = true := by kernel_rfl
theorem SF27 (E : List (Nat × Blk)) (D : Den) (hD : ∀ f, SoundFn Tryz.prog E glob f (D f)) (N : Nat) : SoundFn Tryz.prog E glob 27 (F27 E D (drawW E D) N) := by
  have h := runX_ok hD (drawW_ok hD follows) follows N Tryz.func27 (xf := A27) CF27 rfl AO27 CO27
  have he : runX E D (drawW E D) N A27 = F27 E D (drawW E D) N := by funext args σ; exact FE27 E D (drawW E D) N args σ
  rw [he] at h; exact h
theorem CF30 : compF Tryz.prog glob Tryz.f30 = some A30.strip := by kernel_rfl
theorem CO30 : callOk Tryz.prog 30 = true := by kernel_rfl
theorem SF30 (E : List (Nat × Blk)) (D : Den) (hD : ∀ f, SoundFn Tryz.prog E glob f (D f)) (N : Nat) : SoundFn Tryz.prog E glob 30 (F30 E D (drawW E D) N) := by
  have h := runX_ok hD (drawW_ok hD follows) follows N Tryz.func30 (xf := A30) CF30 rfl AO30 CO30
  have he : runX E D (drawW E D) N A30 = F30 E D (drawW E D) N := by funext args σ; exact FE30 E D (drawW E D) N args σ
  rw [he] at h; exact h
theorem CF188 : compF Tryz.prog glob Tryz.f188 = some A188.strip := by kernel_rfl
theorem CO188 : callOk Tryz.prog 188 = true := by kernel_rfl
theorem SF188 (E : List (Nat × Blk)) (D : Den) (hD : ∀ f, SoundFn Tryz.prog E glob f (D f)) (N : Nat) : SoundFn Tryz.prog E glob 188 (F188 E D (drawW E D) N) := by
  have h := runX_ok hD (drawW_ok hD follows) follows N Tryz.func188 (xf := A188) CF188 rfl AO188 CO188
  have he : runX E D (drawW E D) N A188 = F188 E D (drawW E D) N := by funext args σ; exact FE188 E D (drawW E D) N args σ
  rw [he] at h; exact h
theorem CF13 : compF Tryz.prog glob Tryz.f13 = some A13.strip := by kernel_rfl
theorem CO13 : callOk Tryz.prog 13 = true := by kernel_rfl
theorem SF13 (E : List (Nat × Blk)) (D : Den) (hD : ∀ f, SoundFn Tryz.prog E glob f (D f)) (N : Nat) : SoundFn Tryz.prog E glob 13 (F13 E D (drawW E D) N) := by
  have h := runX_ok hD (drawW_ok hD follows) follows N Tryz.func13 (xf := A13) CF13 rfl AO13 CO13
  have he : runX E D (drawW E D) N A13 = F13 E D (drawW E D) N := by funext args σ; exact FE13 E D (drawW E D) N args σ
  rw [he] at h; exact h
theorem CF74 : compF Tryz.prog glob Tryz.f74 = some A74.strip := by kernel_rfl
theorem CO74 : callOk Tryz.prog 74 = true := by kernel_rfl
theorem SF74 (E : List (Nat × Blk)) (D : Den) (hD : ∀ f, SoundFn Tryz.prog E glob f (D f)) (N : Nat) : SoundFn Tryz.prog E glob 74 (F74 E D (drawW E D) N) := by
  have h := runX_ok hD (drawW_ok hD follows) follows N Tryz.func74 (xf := A74) CF74 rfl AO74 CO74
  have he : runX E D (drawW E D) N A74 = F74 E D (drawW E D) N := by funext args σ; exact FE74 E D (drawW E D) N args σ
  rw [he] at h; exact h
theorem CF50 : compF Tryz.prog glob Tryz.f50 = some A50.strip := by kernel_rfl
theorem CO50 : callOk Tryz.prog 50 = true := by kernel_rfl
theorem SF50 (E : List (Nat × Blk)) (D : Den) (hD : ∀ f, SoundFn Tryz.prog E glob f (D f)) (N : Nat) : SoundFn Tryz.prog E glob 50 (F50 E D (drawW E D) N) := by
  have h := runX_ok hD (drawW_ok hD follows) follows N Tryz.func50 (xf := A50) CF50 rfl AO50 CO50
  have he : runX E D (drawW E D) N A50 = F50 E D (drawW E D) N := by funext args σ; exact FE50 E D (drawW E D) N args σ
  rw [he] at h; exact h
theorem CF222 : compF Tryz.prog glob Tryz.f222 = some A222.strip := by kernel_rfl
theorem CO222 : callOk Tryz.prog 222 = true := by kernel_rfl
theorem SF222 (E : List (Nat × Blk)) (D : Den) (hD : ∀ f, SoundFn Tryz.prog E glob f (D f)) (N : Nat) : SoundFn Tryz.prog E glob 222 (F222 E D (drawW E D) N) := by
  have h := runX_ok hD (drawW_ok hD follows) follows N Tryz.func222 (xf := A222) CF222 rfl AO222 CO222
  have he : runX E D (drawW E D) N A222 = F222 E D (drawW E D) N := by funext args σ; exact FE222 E D (drawW E D) N args σ
  rw [he] at h; exact h
theorem CF62 : compF Tryz.prog glob Tryz.f62 = some A62.strip := by kernel_rfl
theorem CO62 : callOk Tryz.prog 62 = true := by kernel_rfl
theorem SF62 (E : List (Nat × Blk)) (D : Den) (hD : ∀ f, SoundFn Tryz.prog E glob f (D f)) (N : Nat) : SoundFn Tryz.prog E glob 62 (F62 E D (drawW E D) N) := by
  have h := runX_ok hD (drawW_ok hD follows) follows N Tryz.func62 (xf := A62) CF62 rfl AO62 CO62
  have he : runX E D (drawW E D) N A62 = F62 E D (drawW E D) N := by funext args σ; exact FE62 E D (drawW E D) N args σ
  rw [he] at h; exact h
theorem CF104 : compF Tryz.prog glob Tryz.f104 = some A104.strip := by kernel_rfl
theorem CO104 : callOk Tryz.prog 104 = true := by kernel_rfl
theorem SF104 (E : List (Nat × Blk)) (D : Den) (hD : ∀ f, SoundFn Tryz.prog E glob f (D f)) (N : Nat) : SoundFn Tryz.prog E glob 104 (F104 E D (drawW E D) N) := by
  have h := runX_ok hD (drawW_ok hD follows) follows N Tryz.func104 (xf := A104) CF104 rfl AO104 CO104
  have he : runX E D (drawW E D) N A104 = F104 E D (drawW E D) N := by funext args σ; exact FE104 E D (drawW E D) N args σ
  rw [he] at h; exact h
theorem CF247 : compF Tryz.prog glob Tryz.f247 = some A247.strip := by kernel_rfl
theorem CO247 : callOk Tryz.prog 247 = true := by kernel_rfl
theorem SF247 (E : List (Nat × Blk)) (D : Den) (hD : ∀ f, SoundFn Tryz.prog E glob f (D f)) (N : Nat) : SoundFn Tryz.prog E glob 247 (F247 E D (drawW E D) N) := by
  have h := runX_ok hD (drawW_ok hD follows) follows N Tryz.func247 (xf := A247) CF247 rfl AO247 CO247
  have he : runX E D (drawW E D) N A247 = F247 E D (drawW E D) N := by funext args σ; exact FE247 E D (drawW E D) N args σ
  rw [he] at h; exact h
theorem CF91 : compF Tryz.prog glob Tryz.f91 = some A91.strip := by kernel_rfl
theorem CO91 : callOk Tryz.prog 91 = true := by kernel_rfl
theorem SF91 (E : List (Nat × Blk)) (D : Den) (hD : ∀ f, SoundFn Tryz.prog E glob f (D f)) (N : Nat) : SoundFn Tryz.prog E glob 91 (F91 E D (drawW E D) N) := by
  have h := runX_ok hD (drawW_ok hD follows) follows N Tryz.func91 (xf := A91) CF91 rfl AO91 CO91
  have he : runX E D (drawW E D) N A91 = F91 E D (drawW E D) N := by funext args σ; exact FE91 E D (drawW E D) N args σ
  rw [he] at h; exact h
theorem CF226 : compF Tryz.prog glob Tryz.f226 = some A226.strip := by kernel_rfl
theorem CO226 : callOk Tryz.prog 226 = true := by kernel_rfl
theorem SF226 (E : List (Nat × Blk)) (D : Den) (hD : ∀ f, SoundFn Tryz.prog E glob f (D f)) (N : Nat) : SoundFn Tryz.prog E glob 226 (F226 E D (drawW E D) N) := by
  have h := runX_ok hD (drawW_ok hD follows) follows N Tryz.func226 (xf := A226) CF226 rfl AO226 CO226
  have he : runX E D (drawW E D) N A226 = F226 E D (drawW E D) N := by funext args σ; exact FE226 E D (drawW E D) N args σ
  rw [he] at h; exact h
theorem CF205 : compF Tryz.prog glob Tryz.f205 = some A205.strip := by kernel_rfl
theorem CO205 : callOk Tryz.prog 205 = true := by kernel_rfl
theorem SF205 (E : List (Nat × Blk)) (D : Den) (hD : ∀ f, SoundFn Tryz.prog E glob f (D f)) (N : Nat) : SoundFn Tryz.prog E glob 205 (F205 E D (drawW E D) N) := by
  have h := runX_ok hD (drawW_ok hD follows) follows N Tryz.func205 (xf := A205) CF205 rfl AO205 CO205
  have he : runX E D (drawW E D) N A205 = F205 E D (drawW E D) N := by funext args σ; exact FE205 E D (drawW E D) N args σ
  rw [he] at h; exact h
theorem CF12 : compF Tryz.prog glob Tryz.f12 = some A12.strip := by kernel_rfl
theorem CO12 : callOk Tryz.prog 12 = true := by kernel_rfl
theorem SF12 (E : List (Nat × Blk)) (D : Den) (hD : ∀ f, SoundFn Tryz.prog E glob f (D f)) (N : Nat) : SoundFn Tryz.prog E glob 12 (F12 E D (drawW E D) N) := by
  have h := runX_ok hD (drawW_ok hD follows) follows N Tryz.func12 (xf := A12) CF12 rfl AO12 CO12
  have he : runX E D (drawW E D) N A12 = F12 E D (drawW E D) N := by funext args σ; exact FE12 E D (drawW E D) N args σ
  rw [he] at h; exact h
theorem CF25 : compF Tryz.prog glob Tryz.f25 = some A25.strip := by kernel_rfl
theorem CO25 : callOk Tryz.prog 25 = true := by kernel_rfl
theorem SF25 (E : List (Nat × Blk)) (D : Den) (hD : ∀ f, SoundFn Tryz.prog E glob f (D f)) (N : Nat) : SoundFn Tryz.prog E glob 25 (F25 E D (drawW E D) N) := by
  have h := runX_ok hD (drawW_ok hD follows) follows N Tryz.func25 (xf := A25) CF25 rfl AO25 CO25
  have he : runX E D (drawW E D) N A25 = F25 E D (drawW E D) N := by funext args σ; exact FE25 E D (drawW E D) N args σ
  rw [he] at h; exact h
theorem CF28 : compF Tryz.prog glob Tryz.f28 = some A28.strip := by kernel_rfl
theorem CO28 : callOk Tryz.prog 28 = true := by kernel_rfl
theorem SF28 (E : List (Nat × Blk)) (D : Den) (hD : ∀ f, SoundFn Tryz.prog E glob f (D f)) (N : Nat) : SoundFn Tryz.prog E glob 28 (F28 E D (drawW E D) N) := by
  have h := runX_ok hD (drawW_ok hD follows) follows N Tryz.func28 (xf := A28) CF28 rfl AO28 CO28
  have he : runX E D (drawW E D) N A28 = F28 E D (drawW E D) N := by funext args σ; exact FE28 E D (drawW E D) N args σ
  rw [he] at h; exact h
theorem CF92 : compF Tryz.prog glob Tryz.f92 = some A92.strip := by kernel_rfl
theorem CO92 : callOk Tryz.prog 92 = true := by kernel_rfl
theorem SF92 (E : List (Nat × Blk)) (D : Den) (hD : ∀ f, SoundFn Tryz.prog E glob f (D f)) (N : Nat) : SoundFn Tryz.prog E glob 92 (F92 E D (drawW E D) N) := by
  have h := runX_ok hD (drawW_ok hD follows) follows N Tryz.func92 (xf := A92) CF92 rfl AO92 CO92
  have he : runX E D (drawW E D) N A92 = F92 E D (drawW E D) N := by funext args σ; exact FE92 E D (drawW E D) N args σ
  rw [he] at h; exact h
theorem CF26 : compF Tryz.prog glob Tryz.f26 = some A26.strip := by kernel_rfl
theorem CO26 : callOk Tryz.prog 26 = true := by kernel_rfl
theorem SF26 (E : List (Nat × Blk)) (D : Den) (hD : ∀ f, SoundFn Tryz.prog E glob f (D f)) (N : Nat) : SoundFn Tryz.prog E glob 26 (F26 E D (drawW E D) N) := by
  have h := runX_ok hD (drawW_ok hD follows) follows N Tryz.func26 (xf := A26) CF26 rfl AO26 CO26
  have he : runX E D (drawW E D) N A26 = F26 E D (drawW E D) N := by funext args σ; exact FE26 E D (drawW E D) N args σ
  rw [he] at h; exact h
theorem CF157 : compF Tryz.prog glob Tryz.f157 = some A157.strip := by kernel_rfl
theorem CO157 : callOk Tryz.prog 157 = true := by kernel_rfl
theorem SF157 (E : List (Nat × Blk)) (D : Den) (hD : ∀ f, SoundFn Tryz.prog E glob f (D f)) (N : Nat) : SoundFn Tryz.prog E glob 157 (F157 E D (drawW E D) N) := by
  have h := runX_ok hD (drawW_ok hD follows) follows N Tryz.func157 (xf := A157) CF157 rfl AO157 CO157
  have he : runX E D (drawW E D) N A157 = F157 E D (drawW E D) N := by funext args σ; exact FE157 E D (drawW E D) N args σ
  rw [he] at h; exact h
theorem CF17 : compF Tryz.prog glob Tryz.f17 = some A17.strip := by kernel_rfl
theorem CO17 : callOk Tryz.prog 17 = true := by kernel_rfl
theorem SF17 (E : List (Nat × Blk)) (D : Den) (hD : ∀ f, SoundFn Tryz.prog E glob f (D f)) (N : Nat) : SoundFn Tryz.prog E glob 17 (F17 E D (drawW E D) N) := by
  have h := runX_ok hD (drawW_ok hD follows) follows N Tryz.func17 (xf := A17) CF17 rfl AO17 CO17
  have he : runX E D (drawW E D) N A17 = F17 E D (drawW E D) N := by funext args σ; exact FE17 E D (drawW E D) N args σ
  rw [he] at h; exact h
theorem CF118 : compF Tryz.prog glob Tryz.f118 = some A118.strip := by kernel_rfl
theorem CO118 : callOk Tryz.prog 118 = true := by kernel_rfl
theorem SF118 (E : List (Nat × Blk)) (D : Den) (hD : ∀ f, SoundFn Tryz.prog E glob f (D f)) (N : Nat) : SoundFn Tryz.prog E glob 118 (F118 E D (drawW E D) N) := by
  have h := runX_ok hD (drawW_ok hD follows) follows N Tryz.func118 (xf := A118) CF118 rfl AO118 CO118
  have he : runX E D (drawW E D) N A118 = F118 E D (drawW E D) N := by funext args σ; exact FE118 E D (drawW E D) N args σ
  rw [he] at h; exact h
theorem CF6 : compF Tryz.prog glob Tryz.f6 = some A6.strip := by kernel_rfl
theorem CO6 : callOk Tryz.prog 6 = true := by kernel_rfl
theorem SF6 (E : List (Nat × Blk)) (D : Den) (hD : ∀ f, SoundFn Tryz.prog E glob f (D f)) (N : Nat) : SoundFn Tryz.prog E glob 6 (F6 E D (drawW E D) N) := by
  have h := runX_ok hD (drawW_ok hD follows) follows N Tryz.func6 (xf := A6) CF6 rfl AO6 CO6
  have he : runX E D (drawW E D) N A6 = F6 E D (drawW E D) N := by funext args σ; exact FE6 E D (drawW E D) N args σ
  rw [he] at h; exact h
theorem CF94 : compF Tryz.prog glob Tryz.f94 = some A94.strip := by kernel_rfl
theorem CO94 : callOk Tryz.prog 94 = true := by kernel_rfl
theorem SF94 (E : List (Nat × Blk)) (D : Den) (hD : ∀ f, SoundFn Tryz.prog E glob f (D f)) (N : Nat) : SoundFn Tryz.prog E glob 94 (F94 E D (drawW E D) N) := by
  have h := runX_ok hD (drawW_ok hD follows) follows N Tryz.func94 (xf := A94) CF94 rfl AO94 CO94
  have he : runX E D (drawW E D) N A94 = F94 E D (drawW E D) N := by funext args σ; exact FE94 E D (drawW E D) N args σ
  rw [he] at h; exact h
theorem CF67 : compF Tryz.prog glob Tryz.f67 = some A67.strip := by kernel_rfl
theorem CO67 : callOk Tryz.prog 67 = true := by kernel_rfl
theorem SF67 (E : List (Nat × Blk)) (D : Den) (hD : ∀ f, SoundFn Tryz.prog E glob f (D f)) (N : Nat) : SoundFn Tryz.prog E glob 67 (F67 E D (drawW E D) N) := by
  have h := runX_ok hD (drawW_ok hD follows) follows N Tryz.func67 (xf := A67) CF67 rfl AO67 CO67
  have he : runX E D (drawW E D) N A67 = F67 E D (drawW E D) N := by funext args σ; exact FE67 E D (drawW E D) N args σ
  rw [he] at h; exact h
theorem CF95 : compF Tryz.prog glob Tryz.f95 = some A95.strip := by kernel_rfl
theorem CO95 : callOk Tryz.prog 95 = true := by kernel_rfl
theorem SF95 (E : List (Nat × Blk)) (D : Den) (hD : ∀ f, SoundFn Tryz.prog E glob f (D f)) (N : Nat) : SoundFn Tryz.prog E glob 95 (F95 E D (drawW E D) N) := by
  have h := runX_ok hD (drawW_ok hD follows) follows N Tryz.func95 (xf := A95) CF95 rfl AO95 CO95
  have he : runX E D (drawW E D) N A95 = F95 E D (drawW E D) N := by funext args σ; exact FE95 E D (drawW E D) N args σ
  rw [he] at h; exact h
theorem CF29 : compF Tryz.prog glob Tryz.f29 = some A29.strip := by kernel_rfl
theorem CO29 : callOk Tryz.prog 29 = true := by kernel_rfl
theorem SF29 (E : List (Nat × Blk)) (D : Den) (hD : ∀ f, SoundFn Tryz.prog E glob f (D f)) (N : Nat) : SoundFn Tryz.prog E glob 29 (F29 E D (drawW E D) N) := by
  have h := runX_ok hD (drawW_ok hD follows) follows N Tryz.func29 (xf := A29) CF29 rfl AO29 CO29
  have he : runX E D (drawW E D) N A29 = F29 E D (drawW E D) N := by funext args σ; exact FE29 E D (drawW E D) N args σ
  rw [he] at h; exact h
theorem CF144 : compF Tryz.prog glob Tryz.f144 = some A144.strip := by kernel_rfl
theorem CO144 : callOk Tryz.prog 144 = true := by kernel_rfl
theorem SF144 (E : List (Nat × Blk)) (D : Den) (hD : ∀ f, SoundFn Tryz.prog E glob f (D f)) (N : Nat) : SoundFn Tryz.prog E glob 144 (F144 E D (drawW E D) N) := by
  have h := runX_ok hD (drawW_ok hD follows) follows N Tryz.func144 (xf := A144) CF144 rfl AO144 CO144
  have he : runX E D (drawW E D) N A144 = F144 E D (drawW E D) N := by funext args σ; exact FE144 E D (drawW E D) N args σ
  rw [he] at h; exact h
def ftab (E : List (Nat × Blk)) (N : Nat) (D : Den) : List (Nat × (List V → H → Ans)) := [(3, F3 E D (drawW E D) N), (78, F78 E D (drawW E D) N), (41, F41 E D (drawW E D) N), (137, F137 E D (drawW E D) N), (35, F35 E D (drawW E D) N), (36, F36 E D (drawW E D) N), (275, F275 E D (drawW E D) N), (19, F19 E D (drawW E D) N), (72, F72 E D (drawW E D) N), (71, F71 E D (drawW E D) N), (101, F101 E D (drawW E D) N), (37, F37 E D (drawW E D) N), (164, F164 E D (drawW E D) N), (20, F20 E D (drawW E D) N), (16, F16 E D (drawW E D) N), (61, F61 E D (drawW E D) N), (258, F258 E D (drawW E D) N), (230, F230 E D (drawW E D) N), (143, F143 E D (drawW E D) N), (152, F152 E D (drawW E D) N), (7, F7 E D (drawW E D) N), (207, F207 E D (drawW E D) N), (208, F208 E D (drawW E D) N), (134, F134 E D (drawW E D) N), (123, F123 E D (drawW E D) N), (248, F248 E D (drawW E D) N), (165, F165 E D (drawW E D) N), (49, F49 E D (drawW E D) N), (154, F154 E D (drawW E D) N), (27, F27 E D (drawW E D) N), (30, F30 E D (drawW E D) N), (188, F188 E D (drawW E D) N), (13, F13 E D (drawW E D) N), (74, F74 E D (drawW E D) N), (50, F50 E D (drawW E D) N), (222, F222 E D (drawW E D) N), (62, F62 E D (drawW E D) N), (104, F104 E D (drawW E D) N), (247, F247 E D (drawW E D) N), (91, F91 E D (drawW E D) N), (226, F226 E D (drawW E D) N), (205, F205 E D (drawW E D) N), (12, F12 E D (drawW E D) N), (25, F25 E D (drawW E D) N), (28, F28 E D (drawW E D) N), (92, F92 E D (drawW E D) N), (26, F26 E D (drawW E D) N), (157, F157 E D (drawW E D) N), (17, F17 E D (drawW E D) N), (118, F118 E D (drawW E D) N), (6, F6 E D (drawW E D) N), (94, F94 E D (drawW E D) N), (67, F67 E D (drawW E D) N), (95, F95 E D (drawW E D) N), (29, F29 E D (drawW E D) N), (144, F144 E D (drawW E D) N)]
def BD (E : List (Nat × Blk)) (N : Nat) (D : Den) : Den := fun f => match lookF (ftab E N D) f with
  | some g => g
  | none => match lookA tab f with
    | some g => runX E D (drawW E D) N g
    | none => fun _ _ => none
theorem BD_ok (E : List (Nat × Blk)) (N : Nat) (D : Den) (hD : ∀ f, SoundFn Tryz.prog E glob f (D f)) (f : FuncId) : SoundFn Tryz.prog E glob f (BD E N D f) := by
  have hall : ∀ p ∈ ftab E N D, SoundFn Tryz.prog E glob p.1 p.2 := by
    unfold ftab
    simp only [List.forall_mem_cons]
    exact ⟨SF3 E _ hD N, SF78 E _ hD N, SF41 E _ hD N, SF137 E _ hD N, SF35 E _ hD N, SF36 E _ hD N, SF275 E _ hD N, SF19 E _ hD N, SF72 E _ hD N, SF71 E _ hD N, SF101 E _ hD N, SF37 E _ hD N, SF164 E _ hD N, SF20 E _ hD N, SF16 E _ hD N, SF61 E _ hD N, SF258 E _ hD N, SF230 E _ hD N, SF143 E _ hD N, SF152 E _ hD N, SF7 E _ hD N, SF207 E _ hD N, SF208 E _ hD N, SF134 E _ hD N, SF123 E _ hD N, SF248 E _ hD N, SF165 E _ hD N, SF49 E _ hD N, SF154 E _ hD N, SF27 E _ hD N, SF30 E _ hD N, SF188 E _ hD N, SF13 E _ hD N, SF74 E _ hD N, SF50 E _ hD N, SF222 E _ hD N, SF62 E _ hD N, SF104 E _ hD N, SF247 E _ hD N, SF91 E _ hD N, SF226 E _ hD N, SF205 E _ hD N, SF12 E _ hD N, SF25 E _ hD N, SF28 E _ hD N, SF92 E _ hD N, SF26 E _ hD N, SF157 E _ hD N, SF17 E _ hD N, SF118 E _ hD N, SF6 E _ hD N, SF94 E _ hD N, SF67 E _ hD N, SF95 E _ hD N, SF29 E _ hD N, SF144 E _ hD N, fun _ h => by cases h⟩
  unfold BD
  split
  · rename_i g hg
    rw [lookF_eq] at hg
    exact hall _ (look_mem hg)
  · split
    · rename_i g hg
      exact (tab_is _ (lookA_mem _ _ _ hg)).sound E _ hD N
    · intro C _ _ R σ w args xs v σ' h; cases h
def DT (E : List (Nat × Blk)) (N : Nat) (d : Nat) : Den := Nat.rec (fun _ _ _ => none) (fun _ ih => BD E N ih) d
theorem DT_ok (E : List (Nat × Blk)) (N : Nat) : ∀ (d : Nat) (f : FuncId), SoundFn Tryz.prog E glob f (DT E N d f) := by
  intro d
  induction d with
  | zero => intro f C _ _ R σ w args xs v σ' h; cases h
  | succ d ih => exact BD_ok E N _ ih
theorem globLt : ∀ g, glob g = true → g < 2 := fun g hg => by simpa [glob] using hg
end
end Go.Proofs.YtmgbgifepccgpaaGreatDoor
