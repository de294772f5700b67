/- The code agrees with the program. Printed by a program off the dump. -/
import Derived.Test.YtpcnmmbpgeahfaaGreatDoorS0
import Derived.Test.YtpcnmmbpgeahfaaGreatDoorS1
import Derived.Test.YtpcnmmbpgeahfaaGreatDoorS2
import Derived.Test.YtpcnmmbpgeahfaaGreatDoorProg
import Derived.Test.YtpcnmmbpgeahfaaGreatDoorOgZ
set_option linter.all false
set_option maxRecDepth 100000
set_option maxHeartbeats 0
namespace Go.Proofs.YtpcnmmbpgeahfaaGreatDoor
open Go Go.Og
noncomputable section
def glob : Nat → Bool := fun g => Nat.blt g 8
theorem follows : Tryz.prog.follows .mixedOrders = true := by kernel_rfl
def Is (f : Nat) (A : XFn) : Prop := ∃ fn, Tryz.prog.funcs[f]? = some fn ∧ compF Tryz.prog glob fn = some A.strip ∧ A.body.ok = true ∧ callOk Tryz.prog f = true
theorem Is.sound {f : Nat} {A : XFn} (h : Is f A) (E : List (Nat × Blk)) (D : Den) (hD : ∀ f, SoundFn Tryz.prog E glob f (D f)) (N : Nat) : SoundFn Tryz.prog E glob f (runX E D (drawW E D) N A) :=
  let ⟨_, h1, h2, h3, h4⟩ := h
  runX_ok hD (drawW_ok hD follows) follows N h1 h2 rfl h3 h4
def tab : List (Nat × XFn) := [(6, A6), (7, A7), (22, A22), (23, A23), (54, A54), (59, A59), (115, A115)]
theorem tab_is : ∀ p ∈ tab, Is p.1 p.2 := by
  unfold tab
  simp only [List.forall_mem_cons]
  exact ⟨⟨_, Tryz.func6, by kernel_rfl, by kernel_rfl, by kernel_rfl⟩,
    ⟨_, Tryz.func7, by kernel_rfl, by kernel_rfl, by kernel_rfl⟩,
    ⟨_, Tryz.func22, by kernel_rfl, by kernel_rfl, by kernel_rfl⟩,
    ⟨_, Tryz.func23, by kernel_rfl, by kernel_rfl, by kernel_rfl⟩,
    ⟨_, Tryz.func54, by kernel_rfl, by kernel_rfl, by kernel_rfl⟩,
    ⟨_, Tryz.func59, by kernel_rfl, by kernel_rfl, by kernel_rfl⟩,
    ⟨_, Tryz.func115, by kernel_rfl, by kernel_rfl, by kernel_rfl⟩, fun _ h => by cases h⟩
def lookA : List (Nat × XFn) → Nat → Option XFn := fun l n => List.rec none (fun p _ ih => match Nat.beq p.1 n with | true => some p.2 | false => ih) l
theorem lookA_mem : ∀ (l : List (Nat × XFn)) (n : Nat) (g : XFn), lookA l n = some g → (n, g) ∈ l
  | [], n, g, h => by cases h
  | p :: l, n, g, h => by
    have h' : (match Nat.beq p.1 n with | true => some p.2 | false => lookA l n) = some g := h
    cases hb : Nat.beq p.1 n with
    | true =>
      rw [hb] at h'
      simp only [Option.some.injEq] at h'
      have := Nat.eq_of_beq_eq_true hb
      subst this; subst h'
      exact List.mem_cons_self
    | false =>
      rw [hb] at h'
      exact List.mem_cons_of_mem _ (lookA_mem l n g h')
theorem CF76 : compF Tryz.prog glob Tryz.f76 = some A76.strip := by kernel_rfl
theorem CO76 : callOk Tryz.prog 76 = true := by kernel_rfl
theorem SF76 (E : List (Nat × Blk)) (D : Den) (hD : ∀ f, SoundFn Tryz.prog E glob f (D f)) (N : Nat) : SoundFn Tryz.prog E glob 76 (F76 E D (drawW E D) N) := by
  have h := runX_ok hD (drawW_ok hD follows) follows N Tryz.func76 (xf := A76) CF76 rfl AO76 CO76
  have he : runX E D (drawW E D) N A76 = F76 E D (drawW E D) N := by funext args σ; exact FE76 E D (drawW E D) N args σ
  rw [he] at h; exact h
theorem CF78 : compF Tryz.prog glob Tryz.f78 = some A78.strip := by kernel_rfl
theorem CO78 : callOk Tryz.prog 78 = true := by kernel_rfl
theorem SF78 (E : List (Nat × Blk)) (D : Den) (hD : ∀ f, SoundFn Tryz.prog E glob f (D f)) (N : Nat) : SoundFn Tryz.prog E glob 78 (F78 E D (drawW E D) N) := by
  have h := runX_ok hD (drawW_ok hD follows) follows N Tryz.func78 (xf := A78) CF78 rfl AO78 CO78
  have he : runX E D (drawW E D) N A78 = F78 E D (drawW E D) N := by funext args σ; exact FE78 E D (drawW E D) N args σ
  rw [he] at h; exact h
theorem CF42 : compF Tryz.prog glob Tryz.f42 = some A42.strip := by kernel_rfl
theorem CO42 : callOk Tryz.prog 42 = true := by kernel_rfl
theorem SF42 (E : List (Nat × Blk)) (D : Den) (hD : ∀ f, SoundFn Tryz.prog E glob f (D f)) (N : Nat) : SoundFn Tryz.prog E glob 42 (F42 E D (drawW E D) N) := by
  have h := runX_ok hD (drawW_ok hD follows) follows N Tryz.func42 (xf := A42) CF42 rfl AO42 CO42
  have he : runX E D (drawW E D) N A42 = F42 E D (drawW E D) N := by funext args σ; exact FE42 E D (drawW E D) N args σ
  rw [he] at h; exact h
theorem CF77 : compF Tryz.prog glob Tryz.f77 = some A77.strip := by kernel_rfl
theorem CO77 : callOk Tryz.prog 77 = true := by kernel_rfl
theorem SF77 (E : List (Nat × Blk)) (D : Den) (hD : ∀ f, SoundFn Tryz.prog E glob f (D f)) (N : Nat) : SoundFn Tryz.prog E glob 77 (F77 E D (drawW E D) N) := by
  have h := runX_ok hD (drawW_ok hD follows) follows N Tryz.func77 (xf := A77) CF77 rfl AO77 CO77
  have he : runX E D (drawW E D) N A77 = F77 E D (drawW E D) N := by funext args σ; exact FE77 E D (drawW E D) N args σ
  rw [he] at h; exact h
theorem CF93 : compF Tryz.prog glob Tryz.f93 = some A93.strip := by kernel_rfl
theorem CO93 : callOk Tryz.prog 93 = true := by kernel_rfl
theorem SF93 (E : List (Nat × Blk)) (D : Den) (hD : ∀ f, SoundFn Tryz.prog E glob f (D f)) (N : Nat) : SoundFn Tryz.prog E glob 93 (F93 E D (drawW E D) N) := by
  have h := runX_ok hD (drawW_ok hD follows) follows N Tryz.func93 (xf := A93) CF93 rfl AO93 CO93
  have he : runX E D (drawW E D) N A93 = F93 E D (drawW E D) N := by funext args σ; exact FE93 E D (drawW E D) N args σ
  rw [he] at h; exact h
theorem CF106 : compF Tryz.prog glob Tryz.f106 = some A106.strip := by kernel_rfl
theorem CO106 : callOk Tryz.prog 106 = true := by kernel_rfl
theorem SF106 (E : List (Nat × Blk)) (D : Den) (hD : ∀ f, SoundFn Tryz.prog E glob f (D f)) (N : Nat) : SoundFn Tryz.prog E glob 106 (F106 E D (drawW E D) N) := by
  have h := runX_ok hD (drawW_ok hD follows) follows N Tryz.func106 (xf := A106) CF106 rfl AO106 CO106
  have he : runX E D (drawW E D) N A106 = F106 E D (drawW E D) N := by funext args σ; exact FE106 E D (drawW E D) N args σ
  rw [he] at h; exact h
theorem CF65 : compF Tryz.prog glob Tryz.f65 = some A65.strip := by kernel_rfl
theorem CO65 : callOk Tryz.prog 65 = true := by kernel_rfl
theorem SF65 (E : List (Nat × Blk)) (D : Den) (hD : ∀ f, SoundFn Tryz.prog E glob f (D f)) (N : Nat) : SoundFn Tryz.prog E glob 65 (F65 E D (drawW E D) N) := by
  have h := runX_ok hD (drawW_ok hD follows) follows N Tryz.func65 (xf := A65) CF65 rfl AO65 CO65
  have he : runX E D (drawW E D) N A65 = F65 E D (drawW E D) N := by funext args σ; exact FE65 E D (drawW E D) N args σ
  rw [he] at h; exact h
theorem CF15 : compF Tryz.prog glob Tryz.f15 = some A15.strip := by kernel_rfl
theorem CO15 : callOk Tryz.prog 15 = true := by kernel_rfl
theorem SF15 (E : List (Nat × Blk)) (D : Den) (hD : ∀ f, SoundFn Tryz.prog E glob f (D f)) (N : Nat) : SoundFn Tryz.prog E glob 15 (F15 E D (drawW E D) N) := by
  have h := runX_ok hD (drawW_ok hD follows) follows N Tryz.func15 (xf := A15) CF15 rfl AO15 CO15
  have he : runX E D (drawW E D) N A15 = F15 E D (drawW E D) N := by funext args σ; exact FE15 E D (drawW E D) N args σ
  rw [he] at h; exact h
theorem CF64 : compF Tryz.prog glob Tryz.f64 = some A64.strip := by kernel_rfl
theorem CO64 : callOk Tryz.prog 64 = true := by kernel_rfl
theorem SF64 (E : List (Nat × Blk)) (D : Den) (hD : ∀ f, SoundFn Tryz.prog E glob f (D f)) (N : Nat) : SoundFn Tryz.prog E glob 64 (F64 E D (drawW E D) N) := by
  have h := runX_ok hD (drawW_ok hD follows) follows N Tryz.func64 (xf := A64) CF64 rfl AO64 CO64
  have he : runX E D (drawW E D) N A64 = F64 E D (drawW E D) N := by funext args σ; exact FE64 E D (drawW E D) N args σ
  rw [he] at h; exact h
theorem CF14 : compF Tryz.prog glob Tryz.f14 = some A14.strip := by kernel_rfl
theorem CO14 : callOk Tryz.prog 14 = true := by kernel_rfl
theorem SF14 (E : List (Nat × Blk)) (D : Den) (hD : ∀ f, SoundFn Tryz.prog E glob f (D f)) (N : Nat) : SoundFn Tryz.prog E glob 14 (F14 E D (drawW E D) N) := by
  have h := runX_ok hD (drawW_ok hD follows) follows N Tryz.func14 (xf := A14) CF14 rfl AO14 CO14
  have he : runX E D (drawW E D) N A14 = F14 E D (drawW E D) N := by funext args σ; exact FE14 E D (drawW E D) N args σ
  rw [he] at h; exact h
theorem CF87 : compF Tryz.prog glob Tryz.f87 = some A87.strip := by kernel_rfl
theorem CO87 : callOk Tryz.prog 87 = true := by kernel_rfl
theorem SF87 (E : List (Nat × Blk)) (D : Den) (hD : ∀ f, SoundFn Tryz.prog E glob f (D f)) (N : Nat) : SoundFn Tryz.prog E glob 87 (F87 E D (drawW E D) N) := by
  have h := runX_ok hD (drawW_ok hD follows) follows N Tryz.func87 (xf := A87) CF87 rfl AO87 CO87
  have he : runX E D (drawW E D) N A87 = F87 E D (drawW E D) N := by funext args σ; exact FE87 E D (drawW E D) N args σ
  rw [he] at h; exact h
theorem CF19 : compF Tryz.prog glob Tryz.f19 = some A19.strip := by kernel_rfl
theorem CO19 : callOk Tryz.prog 19 = true := by kernel_rfl
theorem SF19 (E : List (Nat × Blk)) (D : Den) (hD : ∀ f, SoundFn Tryz.prog E glob f (D f)) (N : Nat) : SoundFn Tryz.prog E glob 19 (F19 E D (drawW E D) N) := by
  have h := runX_ok hD (drawW_ok hD follows) follows N Tryz.func19 (xf := A19) CF19 rfl AO19 CO19
  have he : runX E D (drawW E D) N A19 = F19 E D (drawW E D) N := by funext args σ; exact FE19 E D (drawW E D) N args σ
  rw [he] at h; exact h
theorem CF80 : compF Tryz.prog glob Tryz.f80 = some A80.strip := by kernel_rfl
theorem CO80 : callOk Tryz.prog 80 = true := by kernel_rfl
theorem SF80 (E : List (Nat × Blk)) (D : Den) (hD : ∀ f, SoundFn Tryz.prog E glob f (D f)) (N : Nat) : SoundFn Tryz.prog E glob 80 (F80 E D (drawW E D) N) := by
  have h := runX_ok hD (drawW_ok hD follows) follows N Tryz.func80 (xf := A80) CF80 rfl AO80 CO80
  have he : runX E D (drawW E D) N A80 = F80 E D (drawW E D) N := by funext args σ; exact FE80 E D (drawW E D) N args σ
  rw [he] at h; exact h
theorem CF45 : compF Tryz.prog glob Tryz.f45 = some A45.strip := by kernel_rfl
theorem CO45 : callOk Tryz.prog 45 = true := by kernel_rfl
theorem SF45 (E : List (Nat × Blk)) (D : Den) (hD : ∀ f, SoundFn Tryz.prog E glob f (D f)) (N : Nat) : SoundFn Tryz.prog E glob 45 (F45 E D (drawW E D) N) := by
  have h := runX_ok hD (drawW_ok hD follows) follows N Tryz.func45 (xf := A45) CF45 rfl AO45 CO45
  have he : runX E D (drawW E D) N A45 = F45 E D (drawW E D) N := by funext args σ; exact FE45 E D (drawW E D) N args σ
  rw [he] at h; exact h
theorem CF60 : compF Tryz.prog glob Tryz.f60 = some A60.strip := by kernel_rfl
theorem CO60 : callOk Tryz.prog 60 = true := by kernel_rfl
theorem SF60 (E : List (Nat × Blk)) (D : Den) (hD : ∀ f, SoundFn Tryz.prog E glob f (D f)) (N : Nat) : SoundFn Tryz.prog E glob 60 (F60 E D (drawW E D) N) := by
  have h := runX_ok hD (drawW_ok hD follows) follows N Tryz.func60 (xf := A60) CF60 rfl AO60 CO60
  have he : runX E D (drawW E D) N A60 = F60 E D (drawW E D) N := by funext args σ; exact FE60 E D (drawW E D) N args σ
  rw [he] at h; exact h
theorem CF86 : compF Tryz.prog glob Tryz.f86 = some A86.strip := by kernel_rfl
theorem CO86 : callOk Tryz.prog 86 = true := by kernel_rfl
theorem SF86 (E : List (Nat × Blk)) (D : Den) (hD : ∀ f, SoundFn Tryz.prog E glob f (D f)) (N : Nat) : SoundFn Tryz.prog E glob 86 (F86 E D (drawW E D) N) := by
  have h := runX_ok hD (drawW_ok hD follows) follows N Tryz.func86 (xf := A86) CF86 rfl AO86 CO86
  have he : runX E D (drawW E D) N A86 = F86 E D (drawW E D) N := by funext args σ; exact FE86 E D (drawW E D) N args σ
  rw [he] at h; exact h
theorem CF26 : compF Tryz.prog glob Tryz.f26 = some A26.strip := by kernel_rfl
theorem CO26 : callOk Tryz.prog 26 = true := by kernel_rfl
theorem SF26 (E : List (Nat × Blk)) (D : Den) (hD : ∀ f, SoundFn Tryz.prog E glob f (D f)) (N : Nat) : SoundFn Tryz.prog E glob 26 (F26 E D (drawW E D) N) := by
  have h := runX_ok hD (drawW_ok hD follows) follows N Tryz.func26 (xf := A26) CF26 rfl AO26 CO26
  have he : runX E D (drawW E D) N A26 = F26 E D (drawW E D) N := by funext args σ; exact FE26 E D (drawW E D) N args σ
  rw [he] at h; exact h
theorem CF61 : compF Tryz.prog glob Tryz.f61 = some A61.strip := by kernel_rfl
theorem CO61 : callOk Tryz.prog 61 = true := by kernel_rfl
theorem SF61 (E : List (Nat × Blk)) (D : Den) (hD : ∀ f, SoundFn Tryz.prog E glob f (D f)) (N : Nat) : SoundFn Tryz.prog E glob 61 (F61 E D (drawW E D) N) := by
  have h := runX_ok hD (drawW_ok hD follows) follows N Tryz.func61 (xf := A61) CF61 rfl AO61 CO61
  have he : runX E D (drawW E D) N A61 = F61 E D (drawW E D) N := by funext args σ; exact FE61 E D (drawW E D) N args σ
  rw [he] at h; exact h
theorem CF27 : compF Tryz.prog glob Tryz.f27 = some A27.strip := by kernel_rfl
theorem CO27 : callOk Tryz.prog 27 = true := by kernel_rfl
theorem SF27 (E : List (Nat × Blk)) (D : Den) (hD : ∀ f, SoundFn Tryz.prog E glob f (D f)) (N : Nat) : SoundFn Tryz.prog E glob 27 (F27 E D (drawW E D) N) := by
  have h := runX_ok hD (drawW_ok hD follows) follows N Tryz.func27 (xf := A27) CF27 rfl AO27 CO27
  have he : runX E D (drawW E D) N A27 = F27 E D (drawW E D) N := by funext args σ; exact FE27 E D (drawW E D) N args σ
  rw [he] at h; exact h
theorem CF28 : compF Tryz.prog glob Tryz.f28 = some A28.strip := by kernel_rfl
theorem CO28 : callOk Tryz.prog 28 = true := by kernel_rfl
theorem SF28 (E : List (Nat × Blk)) (D : Den) (hD : ∀ f, SoundFn Tryz.prog E glob f (D f)) (N : Nat) : SoundFn Tryz.prog E glob 28 (F28 E D (drawW E D) N) := by
  have h := runX_ok hD (drawW_ok hD follows) follows N Tryz.func28 (xf := A28) CF28 rfl AO28 CO28
  have he : runX E D (drawW E D) N A28 = F28 E D (drawW E D) N := by funext args σ; exact FE28 E D (drawW E D) N args σ
  rw [he] at h; exact h
theorem CF79 : compF Tryz.prog glob Tryz.f79 = some A79.strip := by kernel_rfl
theorem CO79 : callOk Tryz.prog 79 = true := by kernel_rfl
theorem SF79 (E : List (Nat × Blk)) (D : Den) (hD : ∀ f, SoundFn Tryz.prog E glob f (D f)) (N : Nat) : SoundFn Tryz.prog E glob 79 (F79 E D (drawW E D) N) := by
  have h := runX_ok hD (drawW_ok hD follows) follows N Tryz.func79 (xf := A79) CF79 rfl AO79 CO79
  have he : runX E D (drawW E D) N A79 = F79 E D (drawW E D) N := by funext args σ; exact FE79 E D (drawW E D) N args σ
  rw [he] at h; exact h
theorem CF94 : compF Tryz.prog glob Tryz.f94 = some A94.strip := by kernel_rfl
theorem CO94 : callOk Tryz.prog 94 = true := by kernel_rfl
theorem SF94 (E : List (Nat × Blk)) (D : Den) (hD : ∀ f, SoundFn Tryz.prog E glob f (D f)) (N : Nat) : SoundFn Tryz.prog E glob 94 (F94 E D (drawW E D) N) := by
  have h := runX_ok hD (drawW_ok hD follows) follows N Tryz.func94 (xf := A94) CF94 rfl AO94 CO94
  have he : runX E D (drawW E D) N A94 = F94 E D (drawW E D) N := by funext args σ; exact FE94 E D (drawW E D) N args σ
  rw [he] at h; exact h
theorem CF43 : compF Tryz.prog glob Tryz.f43 = some A43.strip := by kernel_rfl
theorem CO43 : callOk Tryz.prog 43 = true := by kernel_rfl
theorem SF43 (E : List (Nat × Blk)) (D : Den) (hD : ∀ f, SoundFn Tryz.prog E glob f (D f)) (N : Nat) : SoundFn Tryz.prog E glob 43 (F43 E D (drawW E D) N) := by
  have h := runX_ok hD (drawW_ok hD follows) follows N Tryz.func43 (xf := A43) CF43 rfl AO43 CO43
  have he : runX E D (drawW E D) N A43 = F43 E D (drawW E D) N := by funext args σ; exact FE43 E D (drawW E D) N args σ
  rw [he] at h; exact h
theorem CF49 : compF Tryz.prog glob Tryz.f49 = some A49.strip := by kernel_rfl
theorem CO49 : callOk Tryz.prog 49 = true := by kernel_rfl
theorem SF49 (E : List (Nat × Blk)) (D : Den) (hD : ∀ f, SoundFn Tryz.prog E glob f (D f)) (N : Nat) : SoundFn Tryz.prog E glob 49 (F49 E D (drawW E D) N) := by
  have h := runX_ok hD (drawW_ok hD follows) follows N Tryz.func49 (xf := A49) CF49 rfl AO49 CO49
  have he : runX E D (drawW E D) N A49 = F49 E D (drawW E D) N := by funext args σ; exact FE49 E D (drawW E D) N args σ
  rw [he] at h; exact h
theorem CF20 : compF Tryz.prog glob Tryz.f20 = some A20.strip := by kernel_rfl
theorem CO20 : callOk Tryz.prog 20 = true := by kernel_rfl
theorem SF20 (E : List (Nat × Blk)) (D : Den) (hD : ∀ f, SoundFn Tryz.prog E glob f (D f)) (N : Nat) : SoundFn Tryz.prog E glob 20 (F20 E D (drawW E D) N) := by
  have h := runX_ok hD (drawW_ok hD follows) follows N Tryz.func20 (xf := A20) CF20 rfl AO20 CO20
  have he : runX E D (drawW E D) N A20 = F20 E D (drawW E D) N := by funext args σ; exact FE20 E D (drawW E D) N args σ
  rw [he] at h; exact h
theorem CF32 : compF Tryz.prog glob Tryz.f32 = some A32.strip := by kernel_rfl
theorem CO32 : callOk Tryz.prog 32 = true := by kernel_rfl
theorem SF32 (E : List (Nat × Blk)) (D : Den) (hD : ∀ f, SoundFn Tryz.prog E glob f (D f)) (N : Nat) : SoundFn Tryz.prog E glob 32 (F32 E D (drawW E D) N) := by
  have h := runX_ok hD (drawW_ok hD follows) follows N Tryz.func32 (xf := A32) CF32 rfl AO32 CO32
  have he : runX E D (drawW E D) N A32 = F32 E D (drawW E D) N := by funext args σ; exact FE32 E D (drawW E D) N args σ
  rw [he] at h; exact h
theorem CF84 : compF Tryz.prog glob Tryz.f84 = some A84.strip := by kernel_rfl
theorem CO84 : callOk Tryz.prog 84 = true := by kernel_rfl
theorem SF84 (E : List (Nat × Blk)) (D : Den) (hD : ∀ f, SoundFn Tryz.prog E glob f (D f)) (N : Nat) : SoundFn Tryz.prog E glob 84 (F84 E D (drawW E D) N) := by
  have h := runX_ok hD (drawW_ok hD follows) follows N Tryz.func84 (xf := A84) CF84 rfl AO84 CO84
  have he : runX E D (drawW E D) N A84 = F84 E D (drawW E D) N := by funext args σ; exact FE84 E D (drawW E D) N args σ
  rw [he] at h; exact h
theorem CF73 : compF Tryz.prog glob Tryz.f73 = some A73.strip := by kernel_rfl
theorem CO73 : callOk Tryz.prog 73 = true := by kernel_rfl
theorem SF73 (E : List (Nat × Blk)) (D : Den) (hD : ∀ f, SoundFn Tryz.prog E glob f (D f)) (N : Nat) : SoundFn Tryz.prog E glob 73 (F73 E D (drawW E D) N) := by
  have h := runX_ok hD (drawW_ok hD follows) follows N Tryz.func73 (xf := A73) CF73 rfl AO73 CO73
  have he : runX E D (drawW E D) N A73 = F73 E D (drawW E D) N := by funext args σ; exact FE73 E D (drawW E D) N args σ
  rw [he] at h; exact h
theorem CF74 : compF Tryz.prog glob Tryz.f74 = some A74.strip := by kernel_rfl
theorem CO74 : callOk Tryz.prog 74 = true := by kernel_rfl
theorem SF74 (E : List (Nat × Blk)) (D : Den) (hD : ∀ f, SoundFn Tryz.prog E glob f (D f)) (N : Nat) : SoundFn Tryz.prog E glob 74 (F74 E D (drawW E D) N) := by
  have h := runX_ok hD (drawW_ok hD follows) follows N Tryz.func74 (xf := A74) CF74 rfl AO74 CO74
  have he : runX E D (drawW E D) N A74 = F74 E D (drawW E D) N := by funext args σ; exact FE74 E D (drawW E D) N args σ
  rw [he] at h; exact h
theorem CF75 : compF Tryz.prog glob Tryz.f75 = some A75.strip := by kernel_rfl
theorem CO75 : callOk Tryz.prog 75 = true := by kernel_rfl
theorem SF75 (E : List (Nat × Blk)) (D : Den) (hD : ∀ f, SoundFn Tryz.prog E glob f (D f)) (N : Nat) : SoundFn Tryz.prog E glob 75 (F75 E D (drawW E D) N) := by
  have h := runX_ok hD (drawW_ok hD follows) follows N Tryz.func75 (xf := A75) CF75 rfl AO75 CO75
  have he : runX E D (drawW E D) N A75 = F75 E D (drawW E D) N := by funext args σ; exact FE75 E D (drawW E D) N args σ
  rw [he] at h; exact h
theorem CF63 : compF Tryz.prog glob Tryz.f63 = some A63.strip := by kernel_rfl
theorem CO63 : callOk Tryz.prog 63 = true := by kernel_rfl
theorem SF63 (E : List (Nat × Blk)) (D : Den) (hD : ∀ f, SoundFn Tryz.prog E glob f (D f)) (N : Nat) : SoundFn Tryz.prog E glob 63 (F63 E D (drawW E D) N) := by
  have h := runX_ok hD (drawW_ok hD follows) follows N Tryz.func63 (xf := A63) CF63 rfl AO63 CO63
  have he : runX E D (drawW E D) N A63 = F63 E D (drawW E D) N := by funext args σ; exact FE63 E D (drawW E D) N args σ
  rw [he] at h; exact h
theorem CF13 : compF Tryz.prog glob Tryz.f13 = some A13.strip := by kernel_rfl
theorem CO13 : callOk Tryz.prog 13 = true := by kernel_rfl
theorem SF13 (E : List (Nat × Blk)) (D : Den) (hD : ∀ f, SoundFn Tryz.prog E glob f (D f)) (N : Nat) : SoundFn Tryz.prog E glob 13 (F13 E D (drawW E D) N) := by
  have h := runX_ok hD (drawW_ok hD follows) follows N Tryz.func13 (xf := A13) CF13 rfl AO13 CO13
  have he : runX E D (drawW E D) N A13 = F13 E D (drawW E D) N := by funext args σ; exact FE13 E D (drawW E D) N args σ
  rw [he] at h; exact h
theorem CF12 : compF Tryz.prog glob Tryz.f12 = some A12.strip := by kernel_rfl
theorem CO12 : callOk Tryz.prog 12 = true := by kernel_rfl
theorem SF12 (E : List (Nat × Blk)) (D : Den) (hD : ∀ f, SoundFn Tryz.prog E glob f (D f)) (N : Nat) : SoundFn Tryz.prog E glob 12 (F12 E D (drawW E D) N) := by
  have h := runX_ok hD (drawW_ok hD follows) follows N Tryz.func12 (xf := A12) CF12 rfl AO12 CO12
  have he : runX E D (drawW E D) N A12 = F12 E D (drawW E D) N := by funext args σ; exact FE12 E D (drawW E D) N args σ
  rw [he] at h; exact h
theorem CF62 : compF Tryz.prog glob Tryz.f62 = some A62.strip := by kernel_rfl
theorem CO62 : callOk Tryz.prog 62 = true := by kernel_rfl
theorem SF62 (E : List (Nat × Blk)) (D : Den) (hD : ∀ f, SoundFn Tryz.prog E glob f (D f)) (N : Nat) : SoundFn Tryz.prog E glob 62 (F62 E D (drawW E D) N) := by
  have h := runX_ok hD (drawW_ok hD follows) follows N Tryz.func62 (xf := A62) CF62 rfl AO62 CO62
  have he : runX E D (drawW E D) N A62 = F62 E D (drawW E D) N := by funext args σ; exact FE62 E D (drawW E D) N args σ
  rw [he] at h; exact h
theorem CF17 : compF Tryz.prog glob Tryz.f17 = some A17.strip := by kernel_rfl
theorem CO17 : callOk Tryz.prog 17 = true := by kernel_rfl
theorem SF17 (E : List (Nat × Blk)) (D : Den) (hD : ∀ f, SoundFn Tryz.prog E glob f (D f)) (N : Nat) : SoundFn Tryz.prog E glob 17 (F17 E D (drawW E D) N) := by
  have h := runX_ok hD (drawW_ok hD follows) follows N Tryz.func17 (xf := A17) CF17 rfl AO17 CO17
  have he : runX E D (drawW E D) N A17 = F17 E D (drawW E D) N := by funext args σ; exact FE17 E D (drawW E D) N args σ
  rw [he] at h; exact h
theorem CF29 : compF Tryz.prog glob Tryz.f29 = some A29.strip := by kernel_rfl
theorem CO29 : callOk Tryz.prog 29 = true := by kernel_rfl
theorem SF29 (E : List (Nat × Blk)) (D : Den) (hD : ∀ f, SoundFn Tryz.prog E glob f (D f)) (N : Nat) : SoundFn Tryz.prog E glob 29 (F29 E D (drawW E D) N) := by
  have h := runX_ok hD (drawW_ok hD follows) follows N Tryz.func29 (xf := A29) CF29 rfl AO29 CO29
  have he : runX E D (drawW E D) N A29 = F29 E D (drawW E D) N := by funext args σ; exact FE29 E D (drawW E D) N args σ
  rw [he] at h; exact h
theorem CF31 : compF Tryz.prog glob Tryz.f31 = some A31.strip := by kernel_rfl
theorem CO31 : callOk Tryz.prog 31 = true := by kernel_rfl
theorem SF31 (E : List (Nat × Blk)) (D : Den) (hD : ∀ f, SoundFn Tryz.prog E glob f (D f)) (N : Nat) : SoundFn Tryz.prog E glob 31 (F31 E D (drawW E D) N) := by
  have h := runX_ok hD (drawW_ok hD follows) follows N Tryz.func31 (xf := A31) CF31 rfl AO31 CO31
  have he : runX E D (drawW E D) N A31 = F31 E D (drawW E D) N := by funext args σ; exact FE31 E D (drawW E D) N args σ
  rw [he] at h; exact h
theorem CF88 : compF Tryz.prog glob Tryz.f88 = some A88.strip := by kernel_rfl
theorem CO88 : callOk Tryz.prog 88 = true := by kernel_rfl
theorem SF88 (E : List (Nat × Blk)) (D : Den) (hD : ∀ f, SoundFn Tryz.prog E glob f (D f)) (N : Nat) : SoundFn Tryz.prog E glob 88 (F88 E D (drawW E D) N) := by
  have h := runX_ok hD (drawW_ok hD follows) follows N Tryz.func88 (xf := A88) CF88 rfl AO88 CO88
  have he : runX E D (drawW E D) N A88 = F88 E D (drawW E D) N := by funext args σ; exact FE88 E D (drawW E D) N args σ
  rw [he] at h; exact h
theorem CF97 : compF Tryz.prog glob Tryz.f97 = some A97.strip := by kernel_rfl
theorem CO97 : callOk Tryz.prog 97 = true := by kernel_rfl
theorem SF97 (E : List (Nat × Blk)) (D : Den) (hD : ∀ f, SoundFn Tryz.prog E glob f (D f)) (N : Nat) : SoundFn Tryz.prog E glob 97 (F97 E D (drawW E D) N) := by
  have h := runX_ok hD (drawW_ok hD follows) follows N Tryz.func97 (xf := A97) CF97 rfl AO97 CO97
  have he : runX E D (drawW E D) N A97 = F97 E D (drawW E D) N := by funext args σ; exact FE97 E D (drawW E D) N args σ
  rw [he] at h; exact h
theorem CF98 : compF Tryz.prog glob Tryz.f98 = some A98.strip := by kernel_rfl
theorem CO98 : callOk Tryz.prog 98 = true := by kernel_rfl
theorem SF98 (E : List (Nat × Blk)) (D : Den) (hD : ∀ f, SoundFn Tryz.prog E glob f (D f)) (N : Nat) : SoundFn Tryz.prog E glob 98 (F98 E D (drawW E D) N) := by
  have h := runX_ok hD (drawW_ok hD follows) follows N Tryz.func98 (xf := A98) CF98 rfl AO98 CO98
  have he : runX E D (drawW E D) N A98 = F98 E D (drawW E D) N := by funext args σ; exact FE98 E D (drawW E D) N args σ
  rw [he] at h; exact h
theorem CF110 : compF Tryz.prog glob Tryz.f110 = some A110.strip := by kernel_rfl
theorem CO110 : callOk Tryz.prog 110 = true := by kernel_rfl
theorem SF110 (E : List (Nat × Blk)) (D : Den) (hD : ∀ f, SoundFn Tryz.prog E glob f (D f)) (N : Nat) : SoundFn Tryz.prog E glob 110 (F110 E D (drawW E D) N) := by
  have h := runX_ok hD (drawW_ok hD follows) follows N Tryz.func110 (xf := A110) CF110 rfl AO110 CO110
  have he : runX E D (drawW E D) N A110 = F110 E D (drawW E D) N := by funext args σ; exact FE110 E D (drawW E D) N args σ
  rw [he] at h; exact h
theorem CF25 : compF Tryz.prog glob Tryz.f25 = some A25.strip := by kernel_rfl
theorem CO25 : callOk Tryz.prog 25 = true := by kernel_rfl
theorem SF25 (E : List (Nat × Blk)) (D : Den) (hD : ∀ f, SoundFn Tryz.prog E glob f (D f)) (N : Nat) : SoundFn Tryz.prog E glob 25 (F25 E D (drawW E D) N) := by
  have h := runX_ok hD (drawW_ok hD follows) follows N Tryz.func25 (xf := A25) CF25 rfl AO25 CO25
  have he : runX E D (drawW E D) N A25 = F25 E D (drawW E D) N := by funext args σ; exact FE25 E D (drawW E D) N args σ
  rw [he] at h; exact h
theorem CF38 : compF Tryz.prog glob Tryz.f38 = some A38.strip := by kernel_rfl
theorem CO38 : callOk Tryz.prog 38 = true := by kernel_rfl
theorem SF38 (E : List (Nat × Blk)) (D : Den) (hD : ∀ f, SoundFn Tryz.prog E glob f (D f)) (N : Nat) : SoundFn Tryz.prog E glob 38 (F38 E D (drawW E D) N) := by
  have h := runX_ok hD (drawW_ok hD follows) follows N Tryz.func38 (xf := A38) CF38 rfl AO38 CO38
  have he : runX E D (drawW E D) N A38 = F38 E D (drawW E D) N := by funext args σ; exact FE38 E D (drawW E D) N args σ
  rw [he] at h; exact h
theorem CF39 : compF Tryz.prog glob Tryz.f39 = some A39.strip := by kernel_rfl
theorem CO39 : callOk Tryz.prog 39 = true := by kernel_rfl
theorem SF39 (E : List (Nat × Blk)) (D : Den) (hD : ∀ f, SoundFn Tryz.prog E glob f (D f)) (N : Nat) : SoundFn Tryz.prog E glob 39 (F39 E D (drawW E D) N) := by
  have h := runX_ok hD (drawW_ok hD follows) follows N Tryz.func39 (xf := A39) CF39 rfl AO39 CO39
  have he : runX E D (drawW E D) N A39 = F39 E D (drawW E D) N := by funext args σ; exact FE39 E D (drawW E D) N args σ
  rw [he] at h; exact h
theorem CF71 : compF Tryz.prog glob Tryz.f71 = some A71.strip := by kernel_rfl
theorem CO71 : callOk Tryz.prog 71 = true := by kernel_rfl
theorem SF71 (E : List (Nat × Blk)) (D : Den) (hD : ∀ f, SoundFn Tryz.prog E glob f (D f)) (N : Nat) : SoundFn Tryz.prog E glob 71 (F71 E D (drawW E D) N) := by
  have h := runX_ok hD (drawW_ok hD follows) follows N Tryz.func71 (xf := A71) CF71 rfl AO71 CO71
  have he : runX E D (drawW E D) N A71 = F71 E D (drawW E D) N := by funext args σ; exact FE71 E D (drawW E D) N args σ
  rw [he] at h; exact h
theorem CF130 : compF Tryz.prog glob Tryz.f130 = some A130.strip := by kernel_rfl
theorem CO130 : callOk Tryz.prog 130 = true := by kernel_rfl
theorem SF130 (E : List (Nat × Blk)) (D : Den) (hD : ∀ f, SoundFn Tryz.prog E glob f (D f)) (N : Nat) : SoundFn Tryz.prog E glob 130 (F130 E D (drawW E D) N) := by
  have h := runX_ok hD (drawW_ok hD follows) follows N Tryz.func130 (xf := A130) CF130 rfl AO130 CO130
  have he : runX E D (drawW E D) N A130 = F130 E D (drawW E D) N := by funext args σ; exact FE130 E D (drawW E D) N args σ
  rw [he] at h; exact h
theorem CF40 : compF Tryz.prog glob Tryz.f40 = some A40.strip := by kernel_rfl
theorem CO40 : callOk Tryz.prog 40 = true := by kernel_rfl
theorem SF40 (E : List (Nat × Blk)) (D : Den) (hD : ∀ f, SoundFn Tryz.prog E glob f (D f)) (N : Nat) : SoundFn Tryz.prog E glob 40 (F40 E D (drawW E D) N) := by
  have h := runX_ok hD (drawW_ok hD follows) follows N Tryz.func40 (xf := A40) CF40 rfl AO40 CO40
  have he : runX E D (drawW E D) N A40 = F40 E D (drawW E D) N := by funext args σ; exact FE40 E D (drawW E D) N args σ
  rw [he] at h; exact h
theorem CF67 : compF Tryz.prog glob Tryz.f67 = some A67.strip := by kernel_rfl
theorem CO67 : callOk Tryz.prog 67 = true := by kernel_rfl
theorem SF67 (E : List (Nat × Blk)) (D : Den) (hD : ∀ f, SoundFn Tryz.prog E glob f (D f)) (N : Nat) : SoundFn Tryz.prog E glob 67 (F67 E D (drawW E D) N) := by
  have h := runX_ok hD (drawW_ok hD follows) follows N Tryz.func67 (xf := A67) CF67 rfl AO67 CO67
  have he : runX E D (drawW E D) N A67 = F67 E D (drawW E D) N := by funext args σ; exact FE67 E D (drawW E D) N args σ
  rw [he] at h; exact h
theorem CF44 : compF Tryz.prog glob Tryz.f44 = some A44.strip := by kernel_rfl
theorem CO44 : callOk Tryz.prog 44 = true := by kernel_rfl
theorem SF44 (E : List (Nat × Blk)) (D : Den) (hD : ∀ f, SoundFn Tryz.prog E glob f (D f)) (N : Nat) : SoundFn Tryz.prog E glob 44 (F44 E D (drawW E D) N) := by
  have h := runX_ok hD (drawW_ok hD follows) follows N Tryz.func44 (xf := A44) CF44 rfl AO44 CO44
  have he : runX E D (drawW E D) N A44 = F44 E D (drawW E D) N := by funext args σ; exact FE44 E D (drawW E D) N args σ
  rw [he] at h; exact h
theorem CF69 : compF Tryz.prog glob Tryz.f69 = some A69.strip := by kernel_rfl
theorem CO69 : callOk Tryz.prog 69 = true := by kernel_rfl
theorem SF69 (E : List (Nat × Blk)) (D : Den) (hD : ∀ f, SoundFn Tryz.prog E glob f (D f)) (N : Nat) : SoundFn Tryz.prog E glob 69 (F69 E D (drawW E D) N) := by
  have h := runX_ok hD (drawW_ok hD follows) follows N Tryz.func69 (xf := A69) CF69 rfl AO69 CO69
  have he : runX E D (drawW E D) N A69 = F69 E D (drawW E D) N := by funext args σ; exact FE69 E D (drawW E D) N args σ
  rw [he] at h; exact h
theorem CF68 : compF Tryz.prog glob Tryz.f68 = some A68.strip := by kernel_rfl
theorem CO68 : callOk Tryz.prog 68 = true := by kernel_rfl
theorem SF68 (E : List (Nat × Blk)) (D : Den) (hD : ∀ f, SoundFn Tryz.prog E glob f (D f)) (N : Nat) : SoundFn Tryz.prog E glob 68 (F68 E D (drawW E D) N) := by
  have h := runX_ok hD (drawW_ok hD follows) follows N Tryz.func68 (xf := A68) CF68 rfl AO68 CO68
  have he : runX E D (drawW E D) N A68 = F68 E D (drawW E D) N := by funext args σ; exact FE68 E D (drawW E D) N args σ
  rw [he] at h; exact h
theorem CF8 : compF Tryz.prog glob Tryz.f8 = some A8.strip := by kernel_rfl
theorem CO8 : callOk Tryz.prog 8 = true := by kernel_rfl
theorem SF8 (E : List (Nat × Blk)) (D : Den) (hD : ∀ f, SoundFn Tryz.prog E glob f (D f)) (N : Nat) : SoundFn Tryz.prog E glob 8 (F8 E D (drawW E D) N) := by
  have h := runX_ok hD (drawW_ok hD follows) follows N Tryz.func8 (xf := A8) CF8 rfl AO8 CO8
  have he : runX E D (drawW E D) N A8 = F8 E D (drawW E D) N := by funext args σ; exact FE8 E D (drawW E D) N args σ
  rw [he] at h; exact h
theorem CF18 : compF Tryz.prog glob Tryz.f18 = some A18.strip := by kernel_rfl
theorem CO18 : callOk Tryz.prog 18 = true := by kernel_rfl
theorem SF18 (E : List (Nat × Blk)) (D : Den) (hD : ∀ f, SoundFn Tryz.prog E glob f (D f)) (N : Nat) : SoundFn Tryz.prog E glob 18 (F18 E D (drawW E D) N) := by
  have h := runX_ok hD (drawW_ok hD follows) follows N Tryz.func18 (xf := A18) CF18 rfl AO18 CO18
  have he : runX E D (drawW E D) N A18 = F18 E D (drawW E D) N := by funext args σ; exact FE18 E D (drawW E D) N args σ
  rw [he] at h; exact h
theorem CF35 : compF Tryz.prog glob Tryz.f35 = some A35.strip := by kernel_rfl
theorem CO35 : callOk Tryz.prog 35 = true := by kernel_rfl
theorem SF35 (E : List (Nat × Blk)) (D : Den) (hD : ∀ f, SoundFn Tryz.prog E glob f (D f)) (N : Nat) : SoundFn Tryz.prog E glob 35 (F35 E D (drawW E D) N) := by
  have h := runX_ok hD (drawW_ok hD follows) follows N Tryz.func35 (xf := A35) CF35 rfl AO35 CO35
  have he : runX E D (drawW E D) N A35 = F35 E D (drawW E D) N := by funext args σ; exact FE35 E D (drawW E D) N args σ
  rw [he] at h; exact h
theorem CF57 : compF Tryz.prog glob Tryz.f57 = some A57.strip := by kernel_rfl
theorem CO57 : callOk Tryz.prog 57 = true := by kernel_rfl
theorem SF57 (E : List (Nat × Blk)) (D : Den) (hD : ∀ f, SoundFn Tryz.prog E glob f (D f)) (N : Nat) : SoundFn Tryz.prog E glob 57 (F57 E D (drawW E D) N) := by
  have h := runX_ok hD (drawW_ok hD follows) follows N Tryz.func57 (xf := A57) CF57 rfl AO57 CO57
  have he : runX E D (drawW E D) N A57 = F57 E D (drawW E D) N := by funext args σ; exact FE57 E D (drawW E D) N args σ
  rw [he] at h; exact h
theorem CF11 : compF Tryz.prog glob Tryz.f11 = some A11.strip := by kernel_rfl
theorem CO11 : callOk Tryz.prog 11 = true := by kernel_rfl
theorem SF11 (E : List (Nat × Blk)) (D : Den) (hD : ∀ f, SoundFn Tryz.prog E glob f (D f)) (N : Nat) : SoundFn Tryz.prog E glob 11 (F11 E D (drawW E D) N) := by
  have h := runX_ok hD (drawW_ok hD follows) follows N Tryz.func11 (xf := A11) CF11 rfl AO11 CO11
  have he : runX E D (drawW E D) N A11 = F11 E D (drawW E D) N := by funext args σ; exact FE11 E D (drawW E D) N args σ
  rw [he] at h; exact h
theorem CF10 : compF Tryz.prog glob Tryz.f10 = some A10.strip := by kernel_rfl
theorem CO10 : callOk Tryz.prog 10 = true := by kernel_rfl
theorem SF10 (E : List (Nat × Blk)) (D : Den) (hD : ∀ f, SoundFn Tryz.prog E glob f (D f)) (N : Nat) : SoundFn Tryz.prog E glob 10 (F10 E D (drawW E D) N) := by
  have h := runX_ok hD (drawW_ok hD follows) follows N Tryz.func10 (xf := A10) CF10 rfl AO10 CO10
  have he : runX E D (drawW E D) N A10 = F10 E D (drawW E D) N := by funext args σ; exact FE10 E D (drawW E D) N args σ
  rw [he] at h; exact h
theorem CF21 : compF Tryz.prog glob Tryz.f21 = some A21.strip := by kernel_rfl
theorem CO21 : callOk Tryz.prog 21 = true := by kernel_rfl
theorem SF21 (E : List (Nat × Blk)) (D : Den) (hD : ∀ f, SoundFn Tryz.prog E glob f (D f)) (N : Nat) : SoundFn Tryz.prog E glob 21 (F21 E D (drawW E D) N) := by
  have h := runX_ok hD (drawW_ok hD follows) follows N Tryz.func21 (xf := A21) CF21 rfl AO21 CO21
  have he : runX E D (drawW E D) N A21 = F21 E D (drawW E D) N := by funext args σ; exact FE21 E D (drawW E D) N args σ
  rw [he] at h; exact h
theorem CF36 : compF Tryz.prog glob Tryz.f36 = some A36.strip := by kernel_rfl
theorem CO36 : callOk Tryz.prog 36 = true := by kernel_rfl
theorem SF36 (E : List (Nat × Blk)) (D : Den) (hD : ∀ f, SoundFn Tryz.prog E glob f (D f)) (N : Nat) : SoundFn Tryz.prog E glob 36 (F36 E D (drawW E D) N) := by
  have h := runX_ok hD (drawW_ok hD follows) follows N Tryz.func36 (xf := A36) CF36 rfl AO36 CO36
  have he : runX E D (drawW E D) N A36 = F36 E D (drawW E D) N := by funext args σ; exact FE36 E D (drawW E D) N args σ
  rw [he] at h; exact h
theorem CF37 : compF Tryz.prog glob Tryz.f37 = some A37.strip := by kernel_rfl
theorem CO37 : callOk Tryz.prog 37 = true := by kernel_rfl
theorem SF37 (E : List (Nat × Blk)) (D : Den) (hD : ∀ f, SoundFn Tryz.prog E glob f (D f)) (N : Nat) : SoundFn Tryz.prog E glob 37 (F37 E D (drawW E D) N) := by
  have h := runX_ok hD (drawW_ok hD follows) follows N Tryz.func37 (xf := A37) CF37 rfl AO37 CO37
  have he : runX E D (drawW E D) N A37 = F37 E D (drawW E D) N := by funext args σ; exact FE37 E D (drawW E D) N args σ
  rw [he] at h; exact h
theorem CF66 : compF Tryz.prog glob Tryz.f66 = some A66.strip := by kernel_rfl
theorem CO66 : callOk Tryz.prog 66 = true := by kernel_rfl
theorem SF66 (E : List (Nat × Blk)) (D : Den) (hD : ∀ f, SoundFn Tryz.prog E glob f (D f)) (N : Nat) : SoundFn Tryz.prog E glob 66 (F66 E D (drawW E D) N) := by
  have h := runX_ok hD (drawW_ok hD follows) follows N Tryz.func66 (xf := A66) CF66 rfl AO66 CO66
  have he : runX E D (drawW E D) N A66 = F66 E D (drawW E D) N := by funext args σ; exact FE66 E D (drawW E D) N args σ
  rw [he] at h; exact h
theorem CF24 : compF Tryz.prog glob Tryz.f24 = some A24.strip := by kernel_rfl
theorem CO24 : callOk Tryz.prog 24 = true := by kernel_rfl
theorem SF24 (E : List (Nat × Blk)) (D : Den) (hD : ∀ f, SoundFn Tryz.prog E glob f (D f)) (N : Nat) : SoundFn Tryz.prog E glob 24 (F24 E D (drawW E D) N) := by
  have h := runX_ok hD (drawW_ok hD follows) follows N Tryz.func24 (xf := A24) CF24 rfl AO24 CO24
  have he : runX E D (drawW E D) N A24 = F24 E D (drawW E D) N := by funext args σ; exact FE24 E D (drawW E D) N args σ
  rw [he] at h; exact h
theorem CF4 : compF Tryz.prog glob Tryz.f4 = some A4.strip := by kernel_rfl
theorem CO4 : callOk Tryz.prog 4 = true := by kernel_rfl
theorem SF4 (E : List (Nat × Blk)) (D : Den) (hD : ∀ f, SoundFn Tryz.prog E glob f (D f)) (N : Nat) : SoundFn Tryz.prog E glob 4 (F4 E D (drawW E D) N) := by
  have h := runX_ok hD (drawW_ok hD follows) follows N Tryz.func4 (xf := A4) CF4 rfl AO4 CO4
  have he : runX E D (drawW E D) N A4 = F4 E D (drawW E D) N := by funext args σ; exact FE4 E D (drawW E D) N args σ
  rw [he] at h; exact h
theorem CF114 : compF Tryz.prog glob Tryz.f114 = some A114.strip := by kernel_rfl
theorem CO114 : callOk Tryz.prog 114 = true := by kernel_rfl
theorem SF114 (E : List (Nat × Blk)) (D : Den) (hD : ∀ f, SoundFn Tryz.prog E glob f (D f)) (N : Nat) : SoundFn Tryz.prog E glob 114 (F114 E D (drawW E D) N) := by
  have h := runX_ok hD (drawW_ok hD follows) follows N Tryz.func114 (xf := A114) CF114 rfl AO114 CO114
  have he : runX E D (drawW E D) N A114 = F114 E D (drawW E D) N := by funext args σ; exact FE114 E D (drawW E D) N args σ
  rw [he] at h; exact h
theorem CF129 : compF Tryz.prog glob Tryz.f129 = some A129.strip := by kernel_rfl
theorem CO129 : callOk Tryz.prog 129 = true := by kernel_rfl
theorem SF129 (E : List (Nat × Blk)) (D : Den) (hD : ∀ f, SoundFn Tryz.prog E glob f (D f)) (N : Nat) : SoundFn Tryz.prog E glob 129 (F129 E D (drawW E D) N) := by
  have h := runX_ok hD (drawW_ok hD follows) follows N Tryz.func129 (xf := A129) CF129 rfl AO129 CO129
  have he : runX E D (drawW E D) N A129 = F129 E D (drawW E D) N := by funext args σ; exact FE129 E D (drawW E D) N args σ
  rw [he] at h; exact h
theorem CF144 : compF Tryz.prog glob Tryz.f144 = some A144.strip := by kernel_rfl
theorem CO144 : callOk Tryz.prog 144 = true := by kernel_rfl
theorem SF144 (E : List (Nat × Blk)) (D : Den) (hD : ∀ f, SoundFn Tryz.prog E glob f (D f)) (N : Nat) : SoundFn Tryz.prog E glob 144 (F144 E D (drawW E D) N) := by
  have h := runX_ok hD (drawW_ok hD follows) follows N Tryz.func144 (xf := A144) CF144 rfl AO144 CO144
  have he : runX E D (drawW E D) N A144 = F144 E D (drawW E D) N := by funext args σ; exact FE144 E D (drawW E D) N args σ
  rw [he] at h; exact h
theorem CF9 : compF Tryz.prog glob Tryz.f9 = some A9.strip := by kernel_rfl
theorem CO9 : callOk Tryz.prog 9 = true := by kernel_rfl
theorem SF9 (E : List (Nat × Blk)) (D : Den) (hD : ∀ f, SoundFn Tryz.prog E glob f (D f)) (N : Nat) : SoundFn Tryz.prog E glob 9 (F9 E D (drawW E D) N) := by
  have h := runX_ok hD (drawW_ok hD follows) follows N Tryz.func9 (xf := A9) CF9 rfl AO9 CO9
  have he : runX E D (drawW E D) N A9 = F9 E D (drawW E D) N := by funext args σ; exact FE9 E D (drawW E D) N args σ
  rw [he] at h; exact h
def ftab (E : List (Nat × Blk)) (N : Nat) (D : Den) : List (Nat × (List V → H → Ans)) := [(76, F76 E D (drawW E D) N), (78, F78 E D (drawW E D) N), (42, F42 E D (drawW E D) N), (77, F77 E D (drawW E D) N), (93, F93 E D (drawW E D) N), (106, F106 E D (drawW E D) N), (65, F65 E D (drawW E D) N), (15, F15 E D (drawW E D) N), (64, F64 E D (drawW E D) N), (14, F14 E D (drawW E D) N), (87, F87 E D (drawW E D) N), (19, F19 E D (drawW E D) N), (80, F80 E D (drawW E D) N), (45, F45 E D (drawW E D) N), (60, F60 E D (drawW E D) N), (86, F86 E D (drawW E D) N), (26, F26 E D (drawW E D) N), (61, F61 E D (drawW E D) N), (27, F27 E D (drawW E D) N), (28, F28 E D (drawW E D) N), (79, F79 E D (drawW E D) N), (94, F94 E D (drawW E D) N), (43, F43 E D (drawW E D) N), (49, F49 E D (drawW E D) N), (20, F20 E D (drawW E D) N), (32, F32 E D (drawW E D) N), (84, F84 E D (drawW E D) N), (73, F73 E D (drawW E D) N), (74, F74 E D (drawW E D) N), (75, F75 E D (drawW E D) N), (63, F63 E D (drawW E D) N), (13, F13 E D (drawW E D) N), (12, F12 E D (drawW E D) N), (62, F62 E D (drawW E D) N), (17, F17 E D (drawW E D) N), (29, F29 E D (drawW E D) N), (31, F31 E D (drawW E D) N), (88, F88 E D (drawW E D) N), (97, F97 E D (drawW E D) N), (98, F98 E D (drawW E D) N), (110, F110 E D (drawW E D) N), (25, F25 E D (drawW E D) N), (38, F38 E D (drawW E D) N), (39, F39 E D (drawW E D) N), (71, F71 E D (drawW E D) N), (130, F130 E D (drawW E D) N), (40, F40 E D (drawW E D) N), (67, F67 E D (drawW E D) N), (44, F44 E D (drawW E D) N), (69, F69 E D (drawW E D) N), (68, F68 E D (drawW E D) N), (8, F8 E D (drawW E D) N), (18, F18 E D (drawW E D) N), (35, F35 E D (drawW E D) N), (57, F57 E D (drawW E D) N), (11, F11 E D (drawW E D) N), (10, F10 E D (drawW E D) N), (21, F21 E D (drawW E D) N), (36, F36 E D (drawW E D) N), (37, F37 E D (drawW E D) N), (66, F66 E D (drawW E D) N), (24, F24 E D (drawW E D) N), (4, F4 E D (drawW E D) N), (114, F114 E D (drawW E D) N), (129, F129 E D (drawW E D) N), (144, F144 E D (drawW E D) N), (9, F9 E D (drawW E D) N)]
def BD (E : List (Nat × Blk)) (N : Nat) (D : Den) : Den := fun f => match lookF (ftab E N D) f with
  | some g => g
  | none => match lookA tab f with
    | some g => runX E D (drawW E D) N g
    | none => fun _ _ => none
theorem BD_ok (E : List (Nat × Blk)) (N : Nat) (D : Den) (hD : ∀ f, SoundFn Tryz.prog E glob f (D f)) (f : FuncId) : SoundFn Tryz.prog E glob f (BD E N D f) := by
  have hall : ∀ p ∈ ftab E N D, SoundFn Tryz.prog E glob p.1 p.2 := by
    unfold ftab
    simp only [List.forall_mem_cons]
    exact ⟨SF76 E _ hD N, SF78 E _ hD N, SF42 E _ hD N, SF77 E _ hD N, SF93 E _ hD N, SF106 E _ hD N, SF65 E _ hD N, SF15 E _ hD N, SF64 E _ hD N, SF14 E _ hD N, SF87 E _ hD N, SF19 E _ hD N, SF80 E _ hD N, SF45 E _ hD N, SF60 E _ hD N, SF86 E _ hD N, SF26 E _ hD N, SF61 E _ hD N, SF27 E _ hD N, SF28 E _ hD N, SF79 E _ hD N, SF94 E _ hD N, SF43 E _ hD N, SF49 E _ hD N, SF20 E _ hD N, SF32 E _ hD N, SF84 E _ hD N, SF73 E _ hD N, SF74 E _ hD N, SF75 E _ hD N, SF63 E _ hD N, SF13 E _ hD N, SF12 E _ hD N, SF62 E _ hD N, SF17 E _ hD N, SF29 E _ hD N, SF31 E _ hD N, SF88 E _ hD N, SF97 E _ hD N, SF98 E _ hD N, SF110 E _ hD N, SF25 E _ hD N, SF38 E _ hD N, SF39 E _ hD N, SF71 E _ hD N, SF130 E _ hD N, SF40 E _ hD N, SF67 E _ hD N, SF44 E _ hD N, SF69 E _ hD N, SF68 E _ hD N, SF8 E _ hD N, SF18 E _ hD N, SF35 E _ hD N, SF57 E _ hD N, SF11 E _ hD N, SF10 E _ hD N, SF21 E _ hD N, SF36 E _ hD N, SF37 E _ hD N, SF66 E _ hD N, SF24 E _ hD N, SF4 E _ hD N, SF114 E _ hD N, SF129 E _ hD N, SF144 E _ hD N, SF9 E _ hD N, fun _ h => by cases h⟩
  unfold BD
  split
  · rename_i g hg
    rw [lookF_eq] at hg
    exact hall _ (look_mem hg)
  · split
    · rename_i g hg
      exact (tab_is _ (lookA_mem _ _ _ hg)).sound E _ hD N
    · intro C _ _ R σ w args xs v σ' h; cases h
def DT (E : List (Nat × Blk)) (N : Nat) (d : Nat) : Den := Nat.rec (fun _ _ _ => none) (fun _ ih => BD E N ih) d
theorem DT_ok (E : List (Nat × Blk)) (N : Nat) : ∀ (d : Nat) (f : FuncId), SoundFn Tryz.prog E glob f (DT E N d f) := by
  intro d
  induction d with
  | zero => intro f C _ _ R σ w args xs v σ' h; cases h
  | succ d ih => exact BD_ok E N _ ih
theorem globLt : ∀ g, glob g = true → g < 8 := fun g hg => by simpa [glob] using hg
end
end Go.Proofs.YtpcnmmbpgeahfaaGreatDoor
