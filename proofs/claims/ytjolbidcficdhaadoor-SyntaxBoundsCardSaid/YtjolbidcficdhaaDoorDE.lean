/- What the table of functions holds. Printed by a program. -/
import Derived.Test.YtjolbidcficdhaaDoorD
set_option linter.all false
set_option maxRecDepth 100000
namespace Go.Proofs.YtjolbidcficdhaaDoor
open Go Go.Og
noncomputable section
theorem DE4 (N d : Nat) : DT [] N (d + 1) 4 = F4 [] (DT [] N d) (drawW [] (DT [] N d)) N := by kernel_rfl
theorem DE5 (N d : Nat) : DT [] N (d + 1) 5 = F5 [] (DT [] N d) (drawW [] (DT [] N d)) N := by kernel_rfl
theorem DE6 (N d : Nat) : DT [] N (d + 1) 6 = F6 [] (DT [] N d) (drawW [] (DT [] N d)) N := by kernel_rfl
theorem DE7 (N d : Nat) : DT [] N (d + 1) 7 = F7 [] (DT [] N d) (drawW [] (DT [] N d)) N := by kernel_rfl
theorem DE9 (N d : Nat) : DT [] N (d + 1) 9 = F9 [] (DT [] N d) (drawW [] (DT [] N d)) N := by kernel_rfl
theorem DE10 (N d : Nat) : DT [] N (d + 1) 10 = F10 [] (DT [] N d) (drawW [] (DT [] N d)) N := by kernel_rfl
theorem DE11 (N d : Nat) : DT [] N (d + 1) 11 = F11 [] (DT [] N d) (drawW [] (DT [] N d)) N := by kernel_rfl
theorem DE12 (N d : Nat) : DT [] N (d + 1) 12 = F12 [] (DT [] N d) (drawW [] (DT [] N d)) N := by kernel_rfl
theorem DE17 (N d : Nat) : DT [] N (d + 1) 17 = F17 [] (DT [] N d) (drawW [] (DT [] N d)) N := by kernel_rfl
theorem DE18 (N d : Nat) : DT [] N (d + 1) 18 = F18 [] (DT [] N d) (drawW [] (DT [] N d)) N := by kernel_rfl
theorem DE19 (N d : Nat) : DT [] N (d + 1) 19 = F19 [] (DT [] N d) (drawW [] (DT [] N d)) N := by kernel_rfl
theorem DE20 (N d : Nat) : DT [] N (d + 1) 20 = F20 [] (DT [] N d) (drawW [] (DT [] N d)) N := by kernel_rfl
theorem DE21 (N d : Nat) : DT [] N (d + 1) 21 = F21 [] (DT [] N d) (drawW [] (DT [] N d)) N := by kernel_rfl
theorem DE22 (N d : Nat) : DT [] N (d + 1) 22 = F22 [] (DT [] N d) (drawW [] (DT [] N d)) N := by kernel_rfl
theorem DE23 (N d : Nat) : DT [] N (d + 1) 23 = F23 [] (DT [] N d) (drawW [] (DT [] N d)) N := by kernel_rfl
theorem DE24 (N d : Nat) : DT [] N (d + 1) 24 = F24 [] (DT [] N d) (drawW [] (DT [] N d)) N := by kernel_rfl
theorem DE32 (N d : Nat) : DT [] N (d + 1) 32 = F32 [] (DT [] N d) (drawW [] (DT [] N d)) N := by kernel_rfl
theorem DE33 (N d : Nat) : DT [] N (d + 1) 33 = F33 [] (DT [] N d) (drawW [] (DT [] N d)) N := by kernel_rfl
theorem DE34 (N d : Nat) : DT [] N (d + 1) 34 = F34 [] (DT [] N d) (drawW [] (DT [] N d)) N := by kernel_rfl
theorem DE35 (N d : Nat) : DT [] N (d + 1) 35 = F35 [] (DT [] N d) (drawW [] (DT [] N d)) N := by kernel_rfl
theorem DE36 (N d : Nat) : DT [] N (d + 1) 36 = F36 [] (DT [] N d) (drawW [] (DT [] N d)) N := by kernel_rfl
theorem DE37 (N d : Nat) : DT [] N (d + 1) 37 = F37 [] (DT [] N d) (drawW [] (DT [] N d)) N := by kernel_rfl
theorem DE40 (N d : Nat) : DT [] N (d + 1) 40 = F40 [] (DT [] N d) (drawW [] (DT [] N d)) N := by kernel_rfl
theorem DE41 (N d : Nat) : DT [] N (d + 1) 41 = F41 [] (DT [] N d) (drawW [] (DT [] N d)) N := by kernel_rfl
theorem DE42 (N d : Nat) : DT [] N (d + 1) 42 = F42 [] (DT [] N d) (drawW [] (DT [] N d)) N := by kernel_rfl
theorem DE43 (N d : Nat) : DT [] N (d + 1) 43 = F43 [] (DT [] N d) (drawW [] (DT [] N d)) N := by kernel_rfl
theorem DE44 (N d : Nat) : DT [] N (d + 1) 44 = F44 [] (DT [] N d) (drawW [] (DT [] N d)) N := by kernel_rfl
theorem DE48 (N d : Nat) : DT [] N (d + 1) 48 = F48 [] (DT [] N d) (drawW [] (DT [] N d)) N := by kernel_rfl
theorem DE49 (N d : Nat) : DT [] N (d + 1) 49 = F49 [] (DT [] N d) (drawW [] (DT [] N d)) N := by kernel_rfl
theorem DE50 (N d : Nat) : DT [] N (d + 1) 50 = F50 [] (DT [] N d) (drawW [] (DT [] N d)) N := by kernel_rfl
theorem DE52 (N d : Nat) : DT [] N (d + 1) 52 = F52 [] (DT [] N d) (drawW [] (DT [] N d)) N := by kernel_rfl
theorem DE53 (N d : Nat) : DT [] N (d + 1) 53 = F53 [] (DT [] N d) (drawW [] (DT [] N d)) N := by kernel_rfl
theorem DE58 (N d : Nat) : DT [] N (d + 1) 58 = F58 [] (DT [] N d) (drawW [] (DT [] N d)) N := by kernel_rfl
theorem DE59 (N d : Nat) : DT [] N (d + 1) 59 = F59 [] (DT [] N d) (drawW [] (DT [] N d)) N := by kernel_rfl
theorem DE62 (N d : Nat) : DT [] N (d + 1) 62 = F62 [] (DT [] N d) (drawW [] (DT [] N d)) N := by kernel_rfl
theorem DE63 (N d : Nat) : DT [] N (d + 1) 63 = F63 [] (DT [] N d) (drawW [] (DT [] N d)) N := by kernel_rfl
theorem DE64 (N d : Nat) : DT [] N (d + 1) 64 = F64 [] (DT [] N d) (drawW [] (DT [] N d)) N := by kernel_rfl
theorem DE66 (N d : Nat) : DT [] N (d + 1) 66 = F66 [] (DT [] N d) (drawW [] (DT [] N d)) N := by kernel_rfl
theorem DE67 (N d : Nat) : DT [] N (d + 1) 67 = F67 [] (DT [] N d) (drawW [] (DT [] N d)) N := by kernel_rfl
theorem DE68 (N d : Nat) : DT [] N (d + 1) 68 = F68 [] (DT [] N d) (drawW [] (DT [] N d)) N := by kernel_rfl
theorem DE73 (N d : Nat) : DT [] N (d + 1) 73 = F73 [] (DT [] N d) (drawW [] (DT [] N d)) N := by kernel_rfl
theorem DE75 (N d : Nat) : DT [] N (d + 1) 75 = F75 [] (DT [] N d) (drawW [] (DT [] N d)) N := by kernel_rfl
theorem DE76 (N d : Nat) : DT [] N (d + 1) 76 = F76 [] (DT [] N d) (drawW [] (DT [] N d)) N := by kernel_rfl
end
end Go.Proofs.YtjolbidcficdhaaDoor
