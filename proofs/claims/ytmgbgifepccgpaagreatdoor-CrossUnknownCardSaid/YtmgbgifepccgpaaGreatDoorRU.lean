/- The law, with what its arguments are taken for. Printed by a program. No condition. -/
import Derived.Test.YtmgbgifepccgpaaGreatDoorKA
set_option maxRecDepth 100000
set_option maxHeartbeats 0
set_option linter.all false
namespace Go.Proofs.YtmgbgifepccgpaaGreatDoor.crossUnknown
open Go Go.Og
noncomputable section
def run0 (E : List (Nat × Blk)) (D : Den) (W : DrawFn) (n0 : Int) (n1 : Int) (n2 : Int) (σ : H) : Ans :=
  callK (D 5 [(V.int .i64 (Int.ofNat 1))] σ) fun u1 s2 =>
 rtStr u1 fun x3 =>
 callK (D 4 [(V.str x3)] s2) fun u4 s5 =>
 rtTup u4 fun l6 =>
 rtCons l6 fun x7 l8 =>
 rtAgg x7 fun l9 =>
 rtCons l9 fun x10 l11 =>
 rtStr x10 fun x12 =>
 rtCons l11 fun x13 l14 =>
 rtCons l14 fun x15 l16 =>
 rtCons l16 fun x17 l18 =>
 rtNil l18 (
 rtCons l8 fun x19 l20 =>
 rtBool x19 fun x21 =>
 rtNil l20 (
 chk (allOne [(V.str x12), x13, x15, x17]) (
 iaddrSK 1 x15 (Int.ofNat 2) fun b22 o23 =>
 ldK E s5 b22 o23 fun u24 =>
 rtInt .i64 u24 fun x25 =>
 callK (D 6 [(V.agg [(V.str x12), x13, x15, x17]), (V.int .i64 x25), (V.int .i64 n1), (V.agg [(V.int .i64 (Int.ofNat 12)), (V.int .i64 n0), V.nils, V.nils, (V.int .i64 n1), V.nils])] s5) fun u26 s27 =>
 rtTup u26 fun l28 =>
 rtCons l28 fun x29 l30 =>
 rtCons l30 fun x31 l32 =>
 rtInt .i64 x31 fun x33 =>
 rtNil l32 (
 iaddrSK 1 x15 (Int.ofNat 2) fun b34 o35 =>
 ldK E s27 b34 o35 fun u36 =>
 rtInt .i64 u36 fun x37 =>
 iaddrSK 1 x15 (Int.ofNat 2) fun b38 o39 =>
 ldK E s27 b38 o39 fun u40 =>
 rtInt .i64 u40 fun x41 =>
 callK (D 7 [(V.agg [(V.str x12), x13, x15, x17]), (V.int .i64 x37), (V.int .i64 n1), (V.agg [(V.str x12), x13, x15, x17]), (V.int .i64 x41), (V.int .i64 n2), x29] s27) fun u42 s43 =>
 rtTup u42 fun l44 =>
 rtCons l44 fun x45 l46 =>
 rtCons l46 fun x47 l48 =>
 rtInt .i64 x47 fun x49 =>
 rtNil l48 (
 callK (D 8 [] s43) fun u50 s51 =>
 rtBool u50 fun x52 =>
 joinB (fun c53 s54 =>
 joinB (fun c56 s57 =>
 joinB (fun c59 s60 =>
 joinB (fun c62 s63 =>
 some ((V.bool c62), s63)) fun k64 =>
 condK c59 (
 slenK x45 fun n65 =>
 k64 (eqF (Int.ofNat n65) (Int.ofNat 0)) s60) (
 k64 false s60)) fun k61 =>
 condK c56 (
 k61 (eqF x49 (Int.ofNat 16)) s57) (
 k61 false s57)) fun k58 =>
 condK c53 (
 k58 (eqF x33 (Int.ofNat 0)) s54) (
 k58 false s54)) fun k55 =>
 condK x52 (
 k55 x21 s51) (
 k55 false s51))))))
def run (n0 : Int) (n1 : Int) (n2 : Int) : Ans := run0 [] (denK (BD [] 100000) kn gcl 60) (drawW [] (denK (BD [] 100000) kn gcl 60)) n0 n1 n2 ⟨100, []⟩
theorem denK_succ (B : Den → Den) (kn : List (Nat × List Con)) (gc : List Nat) (d f : Nat) : denK B kn gc (d + 1) f = (match lookF kn f with
    | some l => fun args σ => findC l args σ (gcK gc f σ.next (B (denK B kn gc d) f args σ))
    | none => fun args σ => gcK gc f σ.next (B (denK B kn gc d) f args σ)) := rfl
theorem lookKn : lookF kn 3 = none := by kernel_rfl
theorem memGc : memN gcl 3 = false := by kernel_rfl
theorem lookTab (D : Den) : lookF (ftab [] 100000 D) 3 = some (F3 [] D (drawW [] D) 100000) := by kernel_rfl
theorem rtCons_c (v : V) (l : List V) (κ : V → List V → Ans) : rtCons (v :: l) κ = κ v l := rfl
theorem rtNil_n (a : Ans) : rtNil [] a = a := rfl
theorem rtInt_i (n : Int) (κ : Int → Ans) : rtInt .i64 (.int .i64 n) κ = κ n := by simp [rtInt]
theorem step0 (D : Den) (a0 : Int) (a1 : Int) (a2 : Int) (σ : H) : F3 [] D (drawW [] D) 100000 [.int .i64 a0, .int .i64 a1, .int .i64 a2] σ = run0 [] D (drawW [] D) (addF .i64 (Int.ofNat 2) (wrapF .i64 (Int.tmod (wrapF .u64 a0) (Int.ofNat 60)))) (addF .i64 (Int.ofNat 1) (wrapF .i64 (Int.tmod (wrapF .u64 a1) (Int.ofNat 2)))) (addF .i64 (Int.ofNat 1) (wrapF .i64 (Int.tmod (wrapF .u64 a2) (Int.ofNat 2)))) σ := by
  delta F3
  rw [rtCons_c, rtInt_i, rtCons_c, rtInt_i, rtCons_c, rtInt_i, rtNil_n]
  simp only [J3_0, T3_0, run0]
theorem step1 (a0 : Int) (a1 : Int) (a2 : Int) : denK (BD [] 100000) kn gcl 61 3 [.int .i64 a0, .int .i64 a1, .int .i64 a2] ⟨100, []⟩ = run (addF .i64 (Int.ofNat 2) (wrapF .i64 (Int.tmod (wrapF .u64 a0) (Int.ofNat 60)))) (addF .i64 (Int.ofNat 1) (wrapF .i64 (Int.tmod (wrapF .u64 a1) (Int.ofNat 2)))) (addF .i64 (Int.ofNat 1) (wrapF .i64 (Int.tmod (wrapF .u64 a2) (Int.ofNat 2)))) := by
  rw [denK_succ, lookKn]
  simp only [gcK, memGc]
  unfold BD
  rw [lookTab]
  exact step0 _ a0 a1 a2 _
end
end Go.Proofs.YtmgbgifepccgpaaGreatDoor.crossUnknown
