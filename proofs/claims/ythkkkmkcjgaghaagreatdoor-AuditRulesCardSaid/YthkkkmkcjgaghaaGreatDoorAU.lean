/- AuditRules: the law, with what its arguments are taken for. Printed by a program. No condition. -/
import Derived.Test.YthkkkmkcjgaghaaGreatDoorKA
set_option maxRecDepth 100000
set_option maxHeartbeats 0
set_option linter.all false
namespace Go.Proofs.YthkkkmkcjgaghaaGreatDoor.auditRules
open Go Go.Og
noncomputable section
def Ty3_1 (E : List (Nat × Blk)) (D : Den) (W : DrawFn) (K6 : V → V → H → Ans) (v0 : Int) (v1 : Int) (v5 : V) (v6 : V) (σ : H) : Ans :=
 condK (eqF v1 (Int.ofNat 1)) (
 iaddrSK 2 v6 (Int.ofNat 1) fun b1 o2 =>
 ldnK E σ b1 o2 2 fun l3 =>
 rtCons l3 fun x4 l5 =>
 rtStr x4 fun x6 =>
 rtCons l5 fun x7 l8 =>
 rtNil l8 (
 iaddrSK 2 v6 (Int.ofNat 0) fun b9 o10 =>
 ldnK E σ b9 o10 2 fun l11 =>
 rtCons l11 fun x12 l13 =>
 rtStr x12 fun x14 =>
 rtCons l13 fun x15 l16 =>
 rtNil l16 (
 iaddrSK 2 v6 (Int.ofNat 0) fun b17 o18 =>
 stK 2 b17 o18 (V.agg [(V.str x6), x7]) σ fun s19 =>
 iaddrSK 2 v6 (Int.ofNat 1) fun b20 o21 =>
 stK 2 b20 o21 (V.agg [(V.str x14), x15]) s19 fun s22 =>
 let s23 := newB s22 (.cells [(V.int .i64 (Int.ofNat 1))]);
 K6 v6 (V.sl (H.next s22) 0 1 (.ex 1)) s23))) (
 condK (eqF v1 (Int.ofNat 2)) (
 iaddrSK 2 v6 (Int.ofNat 1) fun b24 o25 =>
 ldK E σ b24 (Nat.add o25 1) fun u26 =>
 iaddrSK 2 u26 (Int.ofNat 0) fun b27 o28 =>
 stK 1 b27 o28 (V.int .i64 (Int.ofNat 7)) σ fun s29 =>
 let s30 := newB s29 (.cells [(V.int .i64 (Int.ofNat 2))]);
 K6 v6 (V.sl (H.next s29) 0 1 (.ex 1)) s30) (
 condK (eqF v1 (Int.ofNat 3)) (
 iaddrSK 2 v6 (Int.ofNat 2) fun b31 o32 =>
 ldK E σ b31 (Nat.add o32 1) fun u33 =>
 iaddrSK 2 v6 (Int.ofNat 2) fun b34 o35 =>
 ldK E σ b34 (Nat.add o35 1) fun u36 =>
 iaddrSK 2 u36 (Int.ofNat 1) fun b37 o38 =>
 ldK E σ b37 (Nat.add o38 1) fun u39 =>
 rtStr u39 fun x40 =>
 catK x40 (BS.mk 1 32) fun t41 =>
 iaddrSK 2 u33 (Int.ofNat 1) fun b42 o43 =>
 stK 1 b42 (Nat.add o43 1) (V.str t41) σ fun s44 =>
 let s45 := newB s44 (.cells [(V.int .i64 (Int.ofNat 3))]);
 K6 v6 (V.sl (H.next s44) 0 1 (.ex 1)) s45) (
 condK (eqF v1 (Int.ofNat 4)) (
 gdrawK (W G3_1 H3_1 [(0, (V.int .i64 v0)), (5, v5), (6, v6)] σ) fun e46 s47 =>
 getL e46 0 fun u48 =>
 rtInt .i64 u48 fun x49 =>
 getL e46 6 fun u50 =>
 let s51 := newB s47 (.cells [(V.int .i64 (Int.ofNat 4))]);
 condK (eqF x49 (Int.ofNat 2)) (
 K6 u50 V.nils s51) (
 K6 u50 (V.sl (H.next s47) 0 1 (.ex 1)) s51)) (
 condK (eqF v1 (Int.ofNat 5)) (
 iaddrSK 2 v6 (Int.ofNat 1) fun b52 o53 =>
 stK 1 b52 (Nat.add o53 1) V.nils σ fun s54 =>
 let s55 := newB s54 (.cells [(V.int .i64 (Int.ofNat 2))]);
 K6 v6 (V.sl (H.next s54) 0 1 (.ex 1)) s55) (
 K6 v6 V.nils σ)))))
def Jy3_1 (E : List (Nat × Blk)) (D : Den) (W : DrawFn) (N : Nat) : Int → Int → V → V → H → Ans := Ty3_1 E D W (J3_6 E D W N )
def Ly3_2 (E : List (Nat × Blk)) (D : Den) (W : DrawFn) (N : Nat) (n : Nat) : Int → Int → V → V → Int → H → Ans :=
  Nat.rec (fun _ _ _ _ _ _ => none) (fun _ ih => T3_2 E D W (Jy3_1 E D W N ) (L3_5 E D W N ih N)) n
def run (n y : Int) : Ans := Ly3_2 [] (denK (BD [] 100000) kn gcl 60) (drawW [] (denK (BD [] 100000) kn gcl 60)) 100000 100000 n y (V.fn 6 [] []) V.nils (Int.ofNat 0) ⟨100, []⟩
end
end Go.Proofs.YthkkkmkcjgaghaaGreatDoor.auditRules
