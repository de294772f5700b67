/- The functions in their plain form are sound. Printed by a program off the dump. -/
import Derived.Test.YtjolbidcficdhaaDoorS0
import Derived.Test.YtjolbidcficdhaaDoorS1
import Derived.Test.YtjolbidcficdhaaDoorProg
import Derived.Test.YtjolbidcficdhaaDoorOgZ
set_option linter.all false
set_option maxRecDepth 100000
set_option maxHeartbeats 0
namespace Go.Proofs.YtjolbidcficdhaaDoor
open Go Go.Og
noncomputable section
def glob : Nat → Bool := fun g => Nat.blt g 7
theorem follows : Tryd.prog.follows .mixedOrders = true := by kernel_rfl
theorem CF4 : compF Tryd.prog glob Tryd.f4 = some A4.strip := by kernel_rfl
theorem CO4 : callOk Tryd.prog 4 = true := by kernel_rfl
theorem SF4 (E : List (Nat × Blk)) (D : Den) (hD : ∀ f, SoundFn Tryd.prog E glob f (D f)) (N : Nat) : SoundFn Tryd.prog E glob 4 (F4 E D (drawW E D) N) := by
  have h := runX_ok hD (drawW_ok hD follows) follows N Tryd.func4 (xf := A4) CF4 rfl AO4 CO4
  have he : runX E D (drawW E D) N A4 = F4 E D (drawW E D) N := by funext args σ; exact FE4 E D (drawW E D) N args σ
  rw [he] at h; exact h
theorem CF5 : compF Tryd.prog glob Tryd.f5 = some A5.strip := by kernel_rfl
theorem CO5 : callOk Tryd.prog 5 = true := by kernel_rfl
theorem SF5 (E : List (Nat × Blk)) (D : Den) (hD : ∀ f, SoundFn Tryd.prog E glob f (D f)) (N : Nat) : SoundFn Tryd.prog E glob 5 (F5 E D (drawW E D) N) := by
  have h := runX_ok hD (drawW_ok hD follows) follows N Tryd.func5 (xf := A5) CF5 rfl AO5 CO5
  have he : runX E D (drawW E D) N A5 = F5 E D (drawW E D) N := by funext args σ; exact FE5 E D (drawW E D) N args σ
  rw [he] at h; exact h
theorem CF6 : compF Tryd.prog glob Tryd.f6 = some A6.strip := by kernel_rfl
theorem CO6 : callOk Tryd.prog 6 = true := by kernel_rfl
theorem SF6 (E : List (Nat × Blk)) (D : Den) (hD : ∀ f, SoundFn Tryd.prog E glob f (D f)) (N : Nat) : SoundFn Tryd.prog E glob 6 (F6 E D (drawW E D) N) := by
  have h := runX_ok hD (drawW_ok hD follows) follows N Tryd.func6 (xf := A6) CF6 rfl AO6 CO6
  have he : runX E D (drawW E D) N A6 = F6 E D (drawW E D) N := by funext args σ; exact FE6 E D (drawW E D) N args σ
  rw [he] at h; exact h
theorem CF7 : compF Tryd.prog glob Tryd.f7 = some A7.strip := by kernel_rfl
theorem CO7 : callOk Tryd.prog 7 = true := by kernel_rfl
theorem SF7 (E : List (Nat × Blk)) (D : Den) (hD : ∀ f, SoundFn Tryd.prog E glob f (D f)) (N : Nat) : SoundFn Tryd.prog E glob 7 (F7 E D (drawW E D) N) := by
  have h := runX_ok hD (drawW_ok hD follows) follows N Tryd.func7 (xf := A7) CF7 rfl AO7 CO7
  have he : runX E D (drawW E D) N A7 = F7 E D (drawW E D) N := by funext args σ; exact FE7 E D (drawW E D) N args σ
  rw [he] at h; exact h
theorem CF9 : compF Tryd.prog glob Tryd.f9 = some A9.strip := by kernel_rfl
theorem CO9 : callOk Tryd.prog 9 = true := by kernel_rfl
theorem SF9 (E : List (Nat × Blk)) (D : Den) (hD : ∀ f, SoundFn Tryd.prog E glob f (D f)) (N : Nat) : SoundFn Tryd.prog E glob 9 (F9 E D (drawW E D) N) := by
  have h := runX_ok hD (drawW_ok hD follows) follows N Tryd.func9 (xf := A9) CF9 rfl AO9 CO9
  have he : runX E D (drawW E D) N A9 = F9 E D (drawW E D) N := by funext args σ; exact FE9 E D (drawW E D) N args σ
  rw [he] at h; exact h
theorem CF10 : compF Tryd.prog glob Tryd.f10 = some A10.strip := by kernel_rfl
theorem CO10 : callOk Tryd.prog 10 = true := by kernel_rfl
theorem SF10 (E : List (Nat × Blk)) (D : Den) (hD : ∀ f, SoundFn Tryd.prog E glob f (D f)) (N : Nat) : SoundFn Tryd.prog E glob 10 (F10 E D (drawW E D) N) := by
  have h := runX_ok hD (drawW_ok hD follows) follows N Tryd.func10 (xf := A10) CF10 rfl AO10 CO10
  have he : runX E D (drawW E D) N A10 = F10 E D (drawW E D) N := by funext args σ; exact FE10 E D (drawW E D) N args σ
  rw [he] at h; exact h
theorem CF11 : compF Tryd.prog glob Tryd.f11 = some A11.strip := by kernel_rfl
theorem CO11 : callOk Tryd.prog 11 = true := by kernel_rfl
theorem SF11 (E : List (Nat × Blk)) (D : Den) (hD : ∀ f, SoundFn Tryd.prog E glob f (D f)) (N : Nat) : SoundFn Tryd.prog E glob 11 (F11 E D (drawW E D) N) := by
  have h := runX_ok hD (drawW_ok hD follows) follows N Tryd.func11 (xf := A11) CF11 rfl AO11 CO11
  have he : runX E D (drawW E D) N A11 = F11 E D (drawW E D) N := by funext args σ; exact FE11 E D (drawW E D) N args σ
  rw [he] at h; exact h
theorem CF12 : compF Tryd.prog glob Tryd.f12 = some A12.strip := by kernel_rfl
theorem CO12 : callOk Tryd.prog 12 = true := by kernel_rfl
theorem SF12 (E : List (Nat × Blk)) (D : Den) (hD : ∀ f, SoundFn Tryd.prog E glob f (D f)) (N : Nat) : SoundFn Tryd.prog E glob 12 (F12 E D (drawW E D) N) := by
  have h := runX_ok hD (drawW_ok hD follows) follows N Tryd.func12 (xf := A12) CF12 rfl AO12 CO12
  have he : runX E D (drawW E D) N A12 = F12 E D (drawW E D) N := by funext args σ; exact FE12 E D (drawW E D) N args σ
  rw [he] at h; exact h
theorem CF17 : compF Tryd.prog glob Tryd.f17 = some A17.strip := by kernel_rfl
theorem CO17 : callOk Tryd.prog 17 = true := by kernel_rfl
theorem SF17 (E : List (Nat × Blk)) (D : Den) (hD : ∀ f, SoundFn Tryd.prog E glob f (D f)) (N : Nat) : SoundFn Tryd.prog E glob 17 (F17 E D (drawW E D) N) := by
  have h := runX_ok hD (drawW_ok hD follows) follows N Tryd.func17 (xf := A17) CF17 rfl AO17 CO17
  have he : runX E D (drawW E D) N A17 = F17 E D (drawW E D) N := by funext args σ; exact FE17 E D (drawW E D) N args σ
  rw [he] at h; exact h
theorem CF18 : compF Tryd.prog glob Tryd.f18 = some A18.strip := by kernel_rfl
theorem CO18 : callOk Tryd.prog 18 = true := by kernel_rfl
theorem SF18 (E : List (Nat × Blk)) (D : Den) (hD : ∀ f, SoundFn Tryd.prog E glob f (D f)) (N : Nat) : SoundFn Tryd.prog E glob 18 (F18 E D (drawW E D) N) := by
  have h := runX_ok hD (drawW_ok hD follows) follows N Tryd.func18 (xf := A18) CF18 rfl AO18 CO18
  have he : runX E D (drawW E D) N A18 = F18 E D (drawW E D) N := by funext args σ; exact FE18 E D (drawW E D) N args σ
  rw [he] at h; exact h
theorem CF19 : compF Tryd.prog glob Tryd.f19 = some A19.strip := by kernel_rfl
theorem CO19 : callOk Tryd.prog 19 = true := by kernel_rfl
theorem SF19 (E : List (Nat × Blk)) (D : Den) (hD : ∀ f, SoundFn Tryd.prog E glob f (D f)) (N : Nat) : SoundFn Tryd.prog E glob 19 (F19 E D (drawW E D) N) := by
  have h := runX_ok hD (drawW_ok hD follows) follows N Tryd.func19 (xf := A19) CF19 rfl AO19 CO19
  have he : runX E D (drawW E D) N A19 = F19 E D (drawW E D) N := by funext args σ; exact FE19 E D (drawW E D) N args σ
  rw [he] at h; exact h
theorem CF20 : compF Tryd.prog glob Tryd.f20 = some A20.strip := by kernel_rfl
theorem CO20 : callOk Tryd.prog 20 = true := by kernel_rfl
theorem SF20 (E : List (Nat × Blk)) (D : Den) (hD : ∀ f, SoundFn Tryd.prog E glob f (D f)) (N : Nat) : SoundFn Tryd.prog E glob 20 (F20 E D (drawW E D) N) := by
  have h := runX_ok hD (drawW_ok hD follows) follows N Tryd.func20 (xf := A20) CF20 rfl AO20 CO20
  have he : runX E D (drawW E D) N A20 = F20 E D (drawW E D) N := by funext args σ; exact FE20 E D (drawW E D) N args σ
  rw [he] at h; exact h
theorem CF21 : compF Tryd.prog glob Tryd.f21 = some A21.strip := by kernel_rfl
theorem CO21 : callOk Tryd.prog 21 = true := by kernel_rfl
theorem SF21 (E : List (Nat × Blk)) (D : Den) (hD : ∀ f, SoundFn Tryd.prog E glob f (D f)) (N : Nat) : SoundFn Tryd.prog E glob 21 (F21 E D (drawW E D) N) := by
  have h := runX_ok hD (drawW_ok hD follows) follows N Tryd.func21 (xf := A21) CF21 rfl AO21 CO21
  have he : runX E D (drawW E D) N A21 = F21 E D (drawW E D) N := by funext args σ; exact FE21 E D (drawW E D) N args σ
  rw [he] at h; exact h
theorem CF22 : compF Tryd.prog glob Tryd.f22 = some A22.strip := by kernel_rfl
theorem CO22 : callOk Tryd.prog 22 = true := by kernel_rfl
theorem SF22 (E : List (Nat × Blk)) (D : Den) (hD : ∀ f, SoundFn Tryd.prog E glob f (D f)) (N : Nat) : SoundFn Tryd.prog E glob 22 (F22 E D (drawW E D) N) := by
  have h := runX_ok hD (drawW_ok hD follows) follows N Tryd.func22 (xf := A22) CF22 rfl AO22 CO22
  have he : runX E D (drawW E D) N A22 = F22 E D (drawW E D) N := by funext args σ; exact FE22 E D (drawW E D) N args σ
  rw [he] at h; exact h
theorem CF23 : compF Tryd.prog glob Tryd.f23 = some A23.strip := by kernel_rfl
theorem CO23 : callOk Tryd.prog 23 = true := by kernel_rfl
theorem SF23 (E : List (Nat × Blk)) (D : Den) (hD : ∀ f, SoundFn Tryd.prog E glob f (D f)) (N : Nat) : SoundFn Tryd.prog E glob 23 (F23 E D (drawW E D) N) := by
  have h := runX_ok hD (drawW_ok hD follows) follows N Tryd.func23 (xf := A23) CF23 rfl AO23 CO23
  have he : runX E D (drawW E D) N A23 = F23 E D (drawW E D) N := by funext args σ; exact FE23 E D (drawW E D) N args σ
  rw [he] at h; exact h
theorem CF24 : compF Tryd.prog glob Tryd.f24 = some A24.strip := by kernel_rfl
theorem CO24 : callOk Tryd.prog 24 = true := by kernel_rfl
theorem SF24 (E : List (Nat × Blk)) (D : Den) (hD : ∀ f, SoundFn Tryd.prog E glob f (D f)) (N : Nat) : SoundFn Tryd.prog E glob 24 (F24 E D (drawW E D) N) := by
  have h := runX_ok hD (drawW_ok hD follows) follows N Tryd.func24 (xf := A24) CF24 rfl AO24 CO24
  have he : runX E D (drawW E D) N A24 = F24 E D (drawW E D) N := by funext args σ; exact FE24 E D (drawW E D) N args σ
  rw [he] at h; exact h
theorem CF32 : compF Tryd.prog glob Tryd.f32 = some A32.strip := by kernel_rfl
theorem CO32 : callOk Tryd.prog 32 = true := by kernel_rfl
theorem SF32 (E : List (Nat × Blk)) (D : Den) (hD : ∀ f, SoundFn Tryd.prog E glob f (D f)) (N : Nat) : SoundFn Tryd.prog E glob 32 (F32 E D (drawW E D) N) := by
  have h := runX_ok hD (drawW_ok hD follows) follows N Tryd.func32 (xf := A32) CF32 rfl AO32 CO32
  have he : runX E D (drawW E D) N A32 = F32 E D (drawW E D) N := by funext args σ; exact FE32 E D (drawW E D) N args σ
  rw [he] at h; exact h
theorem CF33 : compF Tryd.prog glob Tryd.f33 = some A33.strip := by kernel_rfl
theorem CO33 : callOk Tryd.prog 33 = true := by kernel_rfl
theorem SF33 (E : List (Nat × Blk)) (D : Den) (hD : ∀ f, SoundFn Tryd.prog E glob f (D f)) (N : Nat) : SoundFn Tryd.prog E glob 33 (F33 E D (drawW E D) N) := by
  have h := runX_ok hD (drawW_ok hD follows) follows N Tryd.func33 (xf := A33) CF33 rfl AO33 CO33
  have he : runX E D (drawW E D) N A33 = F33 E D (drawW E D) N := by funext args σ; exact FE33 E D (drawW E D) N args σ
  rw [he] at h; exact h
theorem CF34 : compF Tryd.prog glob Tryd.f34 = some A34.strip := by kernel_rfl
theorem CO34 : callOk Tryd.prog 34 = true := by kernel_rfl
theorem SF34 (E : List (Nat × Blk)) (D : Den) (hD : ∀ f, SoundFn Tryd.prog E glob f (D f)) (N : Nat) : SoundFn Tryd.prog E glob 34 (F34 E D (drawW E D) N) := by
  have h := runX_ok hD (drawW_ok hD follows) follows N Tryd.func34 (xf := A34) CF34 rfl AO34 CO34
  have he : runX E D (drawW E D) N A34 = F34 E D (drawW E D) N := by funext args σ; exact FE34 E D (drawW E D) N args σ
  rw [he] at h; exact h
theorem CF35 : compF Tryd.prog glob Tryd.f35 = some A35.strip := by kernel_rfl
theorem CO35 : callOk Tryd.prog 35 = true := by kernel_rfl
theorem SF35 (E : List (Nat × Blk)) (D : Den) (hD : ∀ f, SoundFn Tryd.prog E glob f (D f)) (N : Nat) : SoundFn Tryd.prog E glob 35 (F35 E D (drawW E D) N) := by
  have h := runX_ok hD (drawW_ok hD follows) follows N Tryd.func35 (xf := A35) CF35 rfl AO35 CO35
  have he : runX E D (drawW E D) N A35 = F35 E D (drawW E D) N := by funext args σ; exact FE35 E D (drawW E D) N args σ
  rw [he] at h; exact h
theorem CF36 : compF Tryd.prog glob Tryd.f36 = some A36.strip := by kernel_rfl
theorem CO36 : callOk Tryd.prog 36 = true := by kernel_rfl
theorem SF36 (E : List (Nat × Blk)) (D : Den) (hD : ∀ f, SoundFn Tryd.prog E glob f (D f)) (N : Nat) : SoundFn Tryd.prog E glob 36 (F36 E D (drawW E D) N) := by
  have h := runX_ok hD (drawW_ok hD follows) follows N Tryd.func36 (xf := A36) CF36 rfl AO36 CO36
  have he : runX E D (drawW E D) N A36 = F36 E D (drawW E D) N := by funext args σ; exact FE36 E D (drawW E D) N args σ
  rw [he] at h; exact h
theorem CF37 : compF Tryd.prog glob Tryd.f37 = some A37.strip := by kernel_rfl
theorem CO37 : callOk Tryd.prog 37 = true := by kernel_rfl
theorem SF37 (E : List (Nat × Blk)) (D : Den) (hD : ∀ f, SoundFn Tryd.prog E glob f (D f)) (N : Nat) : SoundFn Tryd.prog E glob 37 (F37 E D (drawW E D) N) := by
  have h := runX_ok hD (drawW_ok hD follows) follows N Tryd.func37 (xf := A37) CF37 rfl AO37 CO37
  have he : runX E D (drawW E D) N A37 = F37 E D (drawW E D) N := by funext args σ; exact FE37 E D (drawW E D) N args σ
  rw [he] at h; exact h
theorem CF40 : compF Tryd.prog glob Tryd.f40 = some A40.strip := by kernel_rfl
theorem CO40 : callOk Tryd.prog 40 = true := by kernel_rfl
theorem SF40 (E : List (Nat × Blk)) (D : Den) (hD : ∀ f, SoundFn Tryd.prog E glob f (D f)) (N : Nat) : SoundFn Tryd.prog E glob 40 (F40 E D (drawW E D) N) := by
  have h := runX_ok hD (drawW_ok hD follows) follows N Tryd.func40 (xf := A40) CF40 rfl AO40 CO40
  have he : runX E D (drawW E D) N A40 = F40 E D (drawW E D) N := by funext args σ; exact FE40 E D (drawW E D) N args σ
  rw [he] at h; exact h
theorem CF41 : compF Tryd.prog glob Tryd.f41 = some A41.strip := by kernel_rfl
theorem CO41 : callOk Tryd.prog 41 = true := by kernel_rfl
theorem SF41 (E : List (Nat × Blk)) (D : Den) (hD : ∀ f, SoundFn Tryd.prog E glob f (D f)) (N : Nat) : SoundFn Tryd.prog E glob 41 (F41 E D (drawW E D) N) := by
  have h := runX_ok hD (drawW_ok hD follows) follows N Tryd.func41 (xf := A41) CF41 rfl AO41 CO41
  have he : runX E D (drawW E D) N A41 = F41 E D (drawW E D) N := by funext args σ; exact FE41 E D (drawW E D) N args σ
  rw [he] at h; exact h
theorem CF42 : compF Tryd.prog glob Tryd.f42 = some A42.strip := by kernel_rfl
theorem CO42 : callOk Tryd.prog 42 = true := by kernel_rfl
theorem SF42 (E : List (Nat × Blk)) (D : Den) (hD : ∀ f, SoundFn Tryd.prog E glob f (D f)) (N : Nat) : SoundFn Tryd.prog E glob 42 (F42 E D (drawW E D) N) := by
  have h := runX_ok hD (drawW_ok hD follows) follows N Tryd.func42 (xf := A42) CF42 rfl AO42 CO42
  have he : runX E D (drawW E D) N A42 = F42 E D (drawW E D) N := by funext args σ; exact FE42 E D (drawW E D) N args σ
  rw [he] at h; exact h
theorem CF43 : compF Tryd.prog glob Tryd.f43 = some A43.strip := by kernel_rfl
theorem CO43 : callOk Tryd.prog 43 = true := by kernel_rfl
theorem SF43 (E : List (Nat × Blk)) (D : Den) (hD : ∀ f, SoundFn Tryd.prog E glob f (D f)) (N : Nat) : SoundFn Tryd.prog E glob 43 (F43 E D (drawW E D) N) := by
  have h := runX_ok hD (drawW_ok hD follows) follows N Tryd.func43 (xf := A43) CF43 rfl AO43 CO43
  have he : runX E D (drawW E D) N A43 = F43 E D (drawW E D) N := by funext args σ; exact FE43 E D (drawW E D) N args σ
  rw [he] at h; exact h
theorem CF44 : compF Tryd.prog glob Tryd.f44 = some A44.strip := by kernel_rfl
theorem CO44 : callOk Tryd.prog 44 = true := by kernel_rfl
theorem SF44 (E : List (Nat × Blk)) (D : Den) (hD : ∀ f, SoundFn Tryd.prog E glob f (D f)) (N : Nat) : SoundFn Tryd.prog E glob 44 (F44 E D (drawW E D) N) := by
  have h := runX_ok hD (drawW_ok hD follows) follows N Tryd.func44 (xf := A44) CF44 rfl AO44 CO44
  have he : runX E D (drawW E D) N A44 = F44 E D (drawW E D) N := by funext args σ; exact FE44 E D (drawW E D) N args σ
  rw [he] at h; exact h
theorem CF48 : compF Tryd.prog glob Tryd.f48 = some A48.strip := by kernel_rfl
theorem CO48 : callOk Tryd.prog 48 = true := by kernel_rfl
theorem SF48 (E : List (Nat × Blk)) (D : Den) (hD : ∀ f, SoundFn Tryd.prog E glob f (D f)) (N : Nat) : SoundFn Tryd.prog E glob 48 (F48 E D (drawW E D) N) := by
  have h := runX_ok hD (drawW_ok hD follows) follows N Tryd.func48 (xf := A48) CF48 rfl AO48 CO48
  have he : runX E D (drawW E D) N A48 = F48 E D (drawW E D) N := by funext args σ; exact FE48 E D (drawW E D) N args σ
  rw [he] at h; exact h
theorem CF49 : compF Tryd.prog glob Tryd.f49 = some A49.strip := by kernel_rfl
theorem CO49 : callOk Tryd.prog 49 = true := by kernel_rfl
theorem SF49 (E : List (Nat × Blk)) (D : Den) (hD : ∀ f, SoundFn Tryd.prog E glob f (D f)) (N : Nat) : SoundFn Tryd.prog E glob 49 (F49 E D (drawW E D) N) := by
  have h := runX_ok hD (drawW_ok hD follows) follows N Tryd.func49 (xf := A49) CF49 rfl AO49 CO49
  have he : runX E D (drawW E D) N A49 = F49 E D (drawW E D) N := by funext args σ; exact FE49 E D (drawW E D) N args σ
  rw [he] at h; exact h
theorem CF50 : compF Tryd.prog glob Tryd.f50 = some A50.strip := by kernel_rfl
theorem CO50 : callOk Tryd.prog 50 = true := by kernel_rfl
theorem SF50 (E : List (Nat × Blk)) (D : Den) (hD : ∀ f, SoundFn Tryd.prog E glob f (D f)) (N : Nat) : SoundFn Tryd.prog E glob 50 (F50 E D (drawW E D) N) := by
  have h := runX_ok hD (drawW_ok hD follows) follows N Tryd.func50 (xf := A50) CF50 rfl AO50 CO50
  have he : runX E D (drawW E D) N A50 = F50 E D (drawW E D) N := by funext args σ; exact FE50 E D (drawW E D) N args σ
  rw [he] at h; exact h
theorem CF52 : compF Tryd.prog glob Tryd.f52 = some A52.strip := by kernel_rfl
theorem CO52 : callOk Tryd.prog 52 = true := by kernel_rfl
theorem SF52 (E : List (Nat × Blk)) (D : Den) (hD : ∀ f, SoundFn Tryd.prog E glob f (D f)) (N : Nat) : SoundFn Tryd.prog E glob 52 (F52 E D (drawW E D) N) := by
  have h := runX_ok hD (drawW_ok hD follows) follows N Tryd.func52 (xf := A52) CF52 rfl AO52 CO52
  have he : runX E D (drawW E D) N A52 = F52 E D (drawW E D) N := by funext args σ; exact FE52 E D (drawW E D) N args σ
  rw [he] at h; exact h
theorem CF53 : compF Tryd.prog glob Tryd.f53 = some A53.strip := by kernel_rfl
theorem CO53 : callOk Tryd.prog 53 = true := by kernel_rfl
theorem SF53 (E : List (Nat × Blk)) (D : Den) (hD : ∀ f, SoundFn Tryd.prog E glob f (D f)) (N : Nat) : SoundFn Tryd.prog E glob 53 (F53 E D (drawW E D) N) := by
  have h := runX_ok hD (drawW_ok hD follows) follows N Tryd.func53 (xf := A53) CF53 rfl AO53 CO53
  have he : runX E D (drawW E D) N A53 = F53 E D (drawW E D) N := by funext args σ; exact FE53 E D (drawW E D) N args σ
  rw [he] at h; exact h
theorem CF58 : compF Tryd.prog glob Tryd.f58 = some A58.strip := by kernel_rfl
theorem CO58 : callOk Tryd.prog 58 = true := by kernel_rfl
theorem SF58 (E : List (Nat × Blk)) (D : Den) (hD : ∀ f, SoundFn Tryd.prog E glob f (D f)) (N : Nat) : SoundFn Tryd.prog E glob 58 (F58 E D (drawW E D) N) := by
  have h := runX_ok hD (drawW_ok hD follows) follows N Tryd.func58 (xf := A58) CF58 rfl AO58 CO58
  have he : runX E D (drawW E D) N A58 = F58 E D (drawW E D) N := by funext args σ; exact FE58 E D (drawW E D) N args σ
  rw [he] at h; exact h
theorem CF59 : compF Tryd.prog glob Tryd.f59 = some A59.strip := by kernel_rfl
theorem CO59 : callOk Tryd.prog 59 = true := by kernel_rfl
theorem SF59 (E : List (Nat × Blk)) (D : Den) (hD : ∀ f, SoundFn Tryd.prog E glob f (D f)) (N : Nat) : SoundFn Tryd.prog E glob 59 (F59 E D (drawW E D) N) := by
  have h := runX_ok hD (drawW_ok hD follows) follows N Tryd.func59 (xf := A59) CF59 rfl AO59 CO59
  have he : runX E D (drawW E D) N A59 = F59 E D (drawW E D) N := by funext args σ; exact FE59 E D (drawW E D) N args σ
  rw [he] at h; exact h
theorem CF62 : compF Tryd.prog glob Tryd.f62 = some A62.strip := by kernel_rfl
theorem CO62 : callOk Tryd.prog 62 = true := by kernel_rfl
theorem SF62 (E : List (Nat × Blk)) (D : Den) (hD : ∀ f, SoundFn Tryd.prog E glob f (D f)) (N : Nat) : SoundFn Tryd.prog E glob 62 (F62 E D (drawW E D) N) := by
  have h := runX_ok hD (drawW_ok hD follows) follows N Tryd.func62 (xf := A62) CF62 rfl AO62 CO62
  have he : runX E D (drawW E D) N A62 = F62 E D (drawW E D) N := by funext args σ; exact FE62 E D (drawW E D) N args σ
  rw [he] at h; exact h
theorem CF63 : compF Tryd.prog glob Tryd.f63 = some A63.strip := by kernel_rfl
theorem CO63 : callOk Tryd.prog 63 = true := by kernel_rfl
theorem SF63 (E : List (Nat × Blk)) (D : Den) (hD : ∀ f, SoundFn Tryd.prog E glob f (D f)) (N : Nat) : SoundFn Tryd.prog E glob 63 (F63 E D (drawW E D) N) := by
  have h := runX_ok hD (drawW_ok hD follows) follows N Tryd.func63 (xf := A63) CF63 rfl AO63 CO63
  have he : runX E D (drawW E D) N A63 = F63 E D (drawW E D) N := by funext args σ; exact FE63 E D (drawW E D) N args σ
  rw [he] at h; exact h
theorem CF64 : compF Tryd.prog glob Tryd.f64 = some A64.strip := by kernel_rfl
theorem CO64 : callOk Tryd.prog 64 = true := by kernel_rfl
theorem SF64 (E : List (Nat × Blk)) (D : Den) (hD : ∀ f, SoundFn Tryd.prog E glob f (D f)) (N : Nat) : SoundFn Tryd.prog E glob 64 (F64 E D (drawW E D) N) := by
  have h := runX_ok hD (drawW_ok hD follows) follows N Tryd.func64 (xf := A64) CF64 rfl AO64 CO64
  have he : runX E D (drawW E D) N A64 = F64 E D (drawW E D) N := by funext args σ; exact FE64 E D (drawW E D) N args σ
  rw [he] at h; exact h
theorem CF66 : compF Tryd.prog glob Tryd.f66 = some A66.strip := by kernel_rfl
theorem CO66 : callOk Tryd.prog 66 = true := by kernel_rfl
theorem SF66 (E : List (Nat × Blk)) (D : Den) (hD : ∀ f, SoundFn Tryd.prog E glob f (D f)) (N : Nat) : SoundFn Tryd.prog E glob 66 (F66 E D (drawW E D) N) := by
  have h := runX_ok hD (drawW_ok hD follows) follows N Tryd.func66 (xf := A66) CF66 rfl AO66 CO66
  have he : runX E D (drawW E D) N A66 = F66 E D (drawW E D) N := by funext args σ; exact FE66 E D (drawW E D) N args σ
  rw [he] at h; exact h
theorem CF67 : compF Tryd.prog glob Tryd.f67 = some A67.strip := by kernel_rfl
theorem CO67 : callOk Tryd.prog 67 = true := by kernel_rfl
theorem SF67 (E : List (Nat × Blk)) (D : Den) (hD : ∀ f, SoundFn Tryd.prog E glob f (D f)) (N : Nat) : SoundFn Tryd.prog E glob 67 (F67 E D (drawW E D) N) := by
  have h := runX_ok hD (drawW_ok hD follows) follows N Tryd.func67 (xf := A67) CF67 rfl AO67 CO67
  have he : runX E D (drawW E D) N A67 = F67 E D (drawW E D) N := by funext args σ; exact FE67 E D (drawW E D) N args σ
  rw [he] at h; exact h
theorem CF68 : compF Tryd.prog glob Tryd.f68 = some A68.strip := by kernel_rfl
theorem CO68 : callOk Tryd.prog 68 = true := by kernel_rfl
theorem SF68 (E : List (Nat × Blk)) (D : Den) (hD : ∀ f, SoundFn Tryd.prog E glob f (D f)) (N : Nat) : SoundFn Tryd.prog E glob 68 (F68 E D (drawW E D) N) := by
  have h := runX_ok hD (drawW_ok hD follows) follows N Tryd.func68 (xf := A68) CF68 rfl AO68 CO68
  have he : runX E D (drawW E D) N A68 = F68 E D (drawW E D) N := by funext args σ; exact FE68 E D (drawW E D) N args σ
  rw [he] at h; exact h
theorem CF73 : compF Tryd.prog glob Tryd.f73 = some A73.strip := by kernel_rfl
theorem CO73 : callOk Tryd.prog 73 = true := by kernel_rfl
theorem SF73 (E : List (Nat × Blk)) (D : Den) (hD : ∀ f, SoundFn Tryd.prog E glob f (D f)) (N : Nat) : SoundFn Tryd.prog E glob 73 (F73 E D (drawW E D) N) := by
  have h := runX_ok hD (drawW_ok hD follows) follows N Tryd.func73 (xf := A73) CF73 rfl AO73 CO73
  have he : runX E D (drawW E D) N A73 = F73 E D (drawW E D) N := by funext args σ; exact FE73 E D (drawW E D) N args σ
  rw [he] at h; exact h
theorem CF75 : compF Tryd.prog glob Tryd.f75 = some A75.strip := by kernel_rfl
theorem CO75 : callOk Tryd.prog 75 = true := by kernel_rfl
theorem SF75 (E : List (Nat × Blk)) (D : Den) (hD : ∀ f, SoundFn Tryd.prog E glob f (D f)) (N : Nat) : SoundFn Tryd.prog E glob 75 (F75 E D (drawW E D) N) := by
  have h := runX_ok hD (drawW_ok hD follows) follows N Tryd.func75 (xf := A75) CF75 rfl AO75 CO75
  have he : runX E D (drawW E D) N A75 = F75 E D (drawW E D) N := by funext args σ; exact FE75 E D (drawW E D) N args σ
  rw [he] at h; exact h
theorem CF76 : compF Tryd.prog glob Tryd.f76 = some A76.strip := by kernel_rfl
theorem CO76 : callOk Tryd.prog 76 = true := by kernel_rfl
theorem SF76 (E : List (Nat × Blk)) (D : Den) (hD : ∀ f, SoundFn Tryd.prog E glob f (D f)) (N : Nat) : SoundFn Tryd.prog E glob 76 (F76 E D (drawW E D) N) := by
  have h := runX_ok hD (drawW_ok hD follows) follows N Tryd.func76 (xf := A76) CF76 rfl AO76 CO76
  have he : runX E D (drawW E D) N A76 = F76 E D (drawW E D) N := by funext args σ; exact FE76 E D (drawW E D) N args σ
  rw [he] at h; exact h
def table (E : List (Nat × Blk)) (N : Nat) (D : Den) : List (Nat × (List V → H → Ans)) := [(4, F4 E D (drawW E D) N), (5, F5 E D (drawW E D) N), (6, F6 E D (drawW E D) N), (7, F7 E D (drawW E D) N), (9, F9 E D (drawW E D) N), (10, F10 E D (drawW E D) N), (11, F11 E D (drawW E D) N), (12, F12 E D (drawW E D) N), (17, F17 E D (drawW E D) N), (18, F18 E D (drawW E D) N), (19, F19 E D (drawW E D) N), (20, F20 E D (drawW E D) N), (21, F21 E D (drawW E D) N), (22, F22 E D (drawW E D) N), (23, F23 E D (drawW E D) N), (24, F24 E D (drawW E D) N), (32, F32 E D (drawW E D) N), (33, F33 E D (drawW E D) N), (34, F34 E D (drawW E D) N), (35, F35 E D (drawW E D) N), (36, F36 E D (drawW E D) N), (37, F37 E D (drawW E D) N), (40, F40 E D (drawW E D) N), (41, F41 E D (drawW E D) N), (42, F42 E D (drawW E D) N), (43, F43 E D (drawW E D) N), (44, F44 E D (drawW E D) N), (48, F48 E D (drawW E D) N), (49, F49 E D (drawW E D) N), (50, F50 E D (drawW E D) N), (52, F52 E D (drawW E D) N), (53, F53 E D (drawW E D) N), (58, F58 E D (drawW E D) N), (59, F59 E D (drawW E D) N), (62, F62 E D (drawW E D) N), (63, F63 E D (drawW E D) N), (64, F64 E D (drawW E D) N), (66, F66 E D (drawW E D) N), (67, F67 E D (drawW E D) N), (68, F68 E D (drawW E D) N), (73, F73 E D (drawW E D) N), (75, F75 E D (drawW E D) N), (76, F76 E D (drawW E D) N)]
def DT (E : List (Nat × Blk)) (N : Nat) (d : Nat) : Den := Nat.rec (fun _ _ _ => none) (fun _ ih f => match lookF (table E N ih) f with
  | some g => g
  | none => fun _ _ => none) d
theorem DT_ok (E : List (Nat × Blk)) (N : Nat) : ∀ (d : Nat) (f : FuncId), SoundFn Tryd.prog E glob f (DT E N d f) := by
  intro d
  induction d with
  | zero => intro f C _ _ R σ w args xs v σ' h; cases h
  | succ d ih =>
    have hall : ∀ p ∈ table E N (DT E N d), SoundFn Tryd.prog E glob p.1 p.2 := by
      unfold table
      simp only [List.forall_mem_cons]
      exact ⟨SF4 E _ ih N, SF5 E _ ih N, SF6 E _ ih N, SF7 E _ ih N, SF9 E _ ih N, SF10 E _ ih N, SF11 E _ ih N, SF12 E _ ih N, SF17 E _ ih N, SF18 E _ ih N, SF19 E _ ih N, SF20 E _ ih N, SF21 E _ ih N, SF22 E _ ih N, SF23 E _ ih N, SF24 E _ ih N, SF32 E _ ih N, SF33 E _ ih N, SF34 E _ ih N, SF35 E _ ih N, SF36 E _ ih N, SF37 E _ ih N, SF40 E _ ih N, SF41 E _ ih N, SF42 E _ ih N, SF43 E _ ih N, SF44 E _ ih N, SF48 E _ ih N, SF49 E _ ih N, SF50 E _ ih N, SF52 E _ ih N, SF53 E _ ih N, SF58 E _ ih N, SF59 E _ ih N, SF62 E _ ih N, SF63 E _ ih N, SF64 E _ ih N, SF66 E _ ih N, SF67 E _ ih N, SF68 E _ ih N, SF73 E _ ih N, SF75 E _ ih N, SF76 E _ ih N, fun _ h => by cases h⟩
    intro f
    show SoundFn Tryd.prog E glob f (match lookF (table E N (DT E N d)) f with
      | some g => g
      | none => fun _ _ => none)
    split
    · rename_i g hg
      rw [lookF_eq] at hg
      exact hall _ (look_mem hg)
    · intro C _ _ R σ w args xs v σ' h; cases h
end
end Go.Proofs.YtjolbidcficdhaaDoor
