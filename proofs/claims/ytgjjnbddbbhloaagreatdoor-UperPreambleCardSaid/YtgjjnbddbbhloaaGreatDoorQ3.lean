/- What the last text leans on, part 4 of 6: merged out of smaller texts. No condition. -/
import Derived.KernelRfl
import Derived.Test.YtgjjnbddbbhloaaGreatDoorQ2
set_option linter.all false
set_option maxRecDepth 100000
set_option maxHeartbeats 0
namespace Go.Proofs.YtgjjnbddbbhloaaGreatDoor
open Go Go.Og
noncomputable section
variable (E : List (Nat × Blk)) (D : Den) (W : DrawFn) (N : Nat)
def q84a : List (Nat × XTy) := [(0, .ptr), (1, .i), (5, .ptr), (6, .ptr), (7, .any), (8, .any), (26, .any), (27, .i), (28, .i)]
def q84b : List (Nat × XTy) := [(0, .ptr), (1, .i), (5, .ptr), (6, .ptr), (7, .any), (8, .any), (11, .bool)]
def q84c : List (Nat × XTy) := [(0, .ptr), (1, .i), (5, .ptr), (6, .ptr), (7, .any), (8, .any)]
def G84_0 : List AOper := [⟨(some 52), .mov (.tmp 0), none⟩, ⟨(some 53), .load (some 13) (.tmp 6), none⟩, ⟨(some 54), .load (some 6) (.tmp 5), none⟩, ⟨(some 55), .mov (.tmp 0), none⟩, ⟨(some 56), .nilck (.tmp 55), none⟩, ⟨(some 57), .faddr 1 (.tmp 56), none⟩, ⟨(some 58), .load (some 4) (.tmp 57), none⟩, ⟨(some 59), .mov (.tmp 1), none⟩, ⟨(some 60), .call 154 [(.tmp 58), (.tmp 59)], none⟩, ⟨(some 61), .faddr 10 (.tmp 6), none⟩, ⟨(some 62), .load none (.tmp 61), none⟩, ⟨(some 63), .sliceSl 1 (.tmp 60) none (some (.tmp 62)) none, none⟩, ⟨(some 64), .call 160 [(.tmp 52), (.tmp 53), (.tmp 54), (.tmp 63)], none⟩]
def H84_0 : List DP := [⟨0, [0]⟩, ⟨0, [6]⟩, ⟨0, [5]⟩, ⟨0, [0]⟩, ⟨8, [55]⟩, ⟨24, [56]⟩, ⟨56, [57]⟩, ⟨0, [1]⟩, ⟨248, [58, 59]⟩, ⟨0, [6]⟩, ⟨512, [61]⟩, ⟨2040, [60, 62]⟩, ⟨4095, [52, 53, 54, 63]⟩]
def Fin84 (E : List (Nat × Blk)) : St → Ans := fun s => resK E s [] fun l => some (oneV l, s.σ)
def b84a (c0 : XC) : Nat → St → Ans := blkK 0 (dX E D W N (.keep q84c [] [] c0) (Fin84 E) nX (Fin84 E)) nX
def C84_0 (cc1 : XC) (cc2 : XC) : XC := (.z (.P 5 (.box 38 (.t 2))<|
.nil)
 (.z (.m 12 0<|
.n 13 12<|
.f 14 1 13<|
.f 15 3 14<|
.l 16 .any 15<|
.m 17 1<|
.s 18 13 16 17<|
.O 19 y1 (.load (some 13) (.t 18))<|
.p 6 [] y19<|
.op none y1 [6, 19] (.store 13 (.t 6) (.t 19))<|
.nil)
 (.z (.m 20 0<|
.n 21 20<|
.f 22 1 21<|
.O 23 y7 (.load (some 4) (.t 22))<|
.m 24 1<|
.k 25 .one 155 [(.t 23), (.t 24)]<|
.m 7 25<|
.nil)
 (.z (.c 8 V.nils<|
.nil)
 (.seq (.z (.m 26 7<|
.u 27 26<|
.q 28 0<|
.nil)
 (.block 0 (.loop q84a [] [] cc2)))
 (.keep q84c [] [] cc1))))))
def T84_0 (E : List (Nat × Blk)) (D : Den) (W : DrawFn) (K2 : Nat → Nat → Int → Nat → Nat → Nat → Nat → V → V → V → Int → Int → H → Ans) (a b : Nat) (c d e : Int) (f g : V) (h : Int) (i : V) (σ : H) : Ans :=
 nbK [(V.int .i64 d), (V.int .i64 e), f, g, (V.int .i64 h), i] σ fun s1 =>
 ldK E s1 a (Nat.add (Nat.add b 1) 3) fun u2 =>
 iaddrSK 13 u2 c fun b3 o4 =>
 ldnK E s1 b3 o4 13 fun l5 =>
 xcI .i64 l5 fun x8 l7 =>
 rtCons l7 fun x9 l10 =>
 xcB l10 fun x13 l12 =>
 xcB l12 fun x16 l15 =>
 xcB l15 fun x19 l18 =>
 xcB l18 fun x22 l21 =>
 xcI .i64 l21 fun x25 l24 =>
 xcI .i64 l24 fun x28 l27 =>
 rtCons l27 fun x29 l30 =>
 rtCons l30 fun x31 l32 =>
 xcI .i64 l32 fun x35 l34 =>
 xcB l34 fun x38 l37 =>
 xcI .i64 l37 fun x41 l40 =>
 rtNil l40 (
 let s42 := newB s1 (.cells [(V.int .i64 (Int.ofNat 0)), V.nils, (V.bool false), (V.bool false), (V.bool false), (V.bool false), (V.int .i64 (Int.ofNat 0)), (V.int .i64 (Int.ofNat 0)), V.nils, V.nils, (V.int .i64 (Int.ofNat 0)), (V.bool false), (V.int .i64 (Int.ofNat 0))]);
 stK 13 (H.next s1) 0 (V.agg [(V.int .i64 x8), x9, (V.bool x13), (V.bool x16), (V.bool x19), (V.bool x22), (V.int .i64 x25), (V.int .i64 x28), x29, x31, (V.int .i64 x35), (V.bool x38), (V.int .i64 x41)]) s42 fun s43 =>
 ldnK E s43 a (Nat.add b 1) 4 fun l44 =>
 xcS l44 fun x47 l46 =>
 rtCons l46 fun x48 l49 =>
 rtCons l49 fun x50 l51 =>
 rtCons l51 fun x52 l53 =>
 rtNil l53 (
 callK (D 155 [(V.agg [(V.str x47), x48, x50, x52]), (V.int .i64 c)] s43) fun u54 s55 =>
 rtOne u54 (
 slenK u54 fun n56 =>
 K2 a b c (H.next σ) 0 (H.next s1) 0 u54 V.nils u54 (Int.ofNat n56) (Int.ofNat 0) s55)))
def C84_1 (cc3 : XC) : XC := (.z (.f 39 5 5<|
.l 40 .any 39<|
.u 41 40<|
.b 42 .gtr .none (.t 41) (.i 0)<|
.m 43 42<|
.gO 43 false (.p 44 [8, 43] y30<|
.op (some 45) .bool [44, 43] (.call 159 [(.t 44), y12])<|
.nil) 46 43 45<|
.m 11 46<|
.nil)
 (.seq (.z (.f 47 11 6<|
.l 48 .bool 47<|
.nil)
 (.cond (.tmp 48) (.ops (.m 49 0<|
.m 50 11<|
.k 51 y10 71 [(.t 49), (.t 50)]<|
.nil))
 .skip))
 (.keep q84b [] [] cc3)))
def T84_1 (E : List (Nat × Blk)) (D : Den) (W : DrawFn) (K3 : Nat → Nat → Int → Nat → Nat → Nat → Nat → V → V → Bool → H → Ans) (a b : Nat) (c : Int) (d e f g : Nat) (h i : V) (σ : H) : Ans :=
 ldK E σ d (Nat.add e 5) fun u1 =>
 slenK u1 fun n2 =>
 joinB (fun c3 s4 =>
 ldK E s4 f (Nat.add g 11) fun u6 =>
 rtBool u6 fun x7 =>
 condK x7 (
 callK (D 71 [(V.ptr a b), (V.bool c3)] s4) fun u8 s9 =>
 rtTup u8 fun l10 =>
 rtNil l10 (
 K3 a b c d e f g h i c3 s9)) (
 K3 a b c d e f g h i c3 s4)) fun k5 =>
 condK (ltF (Int.ofNat 0) (Int.ofNat n2)) (
 k5 true σ) (
 callK (D 159 [i, (V.bool true)] σ) fun u11 s12 =>
 rtBool u11 fun x13 =>
 k5 x13 s12)
def C84_2 : XC := (.z (.b 29 .lss .none (.t 28) (.t 27)<|
.nil)
 (.seq (.cond (.tmp 29) .skip
 y23)
 (.seq (.block 1 (.z (.s 30 1 26 28<|
.l 31 .any 30<|
.m 10 31<|
.nil)
 (.ops (.m 32 8<|
.m 33 10<|
.p 34 [5] (.mkfn 157 [] [(.t 5)])<|
.k 35 .bool 156 [(.t 33), (.t 34)]<|
.p 36 [35] (.buildSlice 4 1 [y3] [(0, 1, (.t 35))])<|
.O 37 .one (.append 4 1 1 (.t 32) (.t 36))<|
.m 8 37<|
.nil))))
 (.ops (.b 38 .add .none (.t 28) (.i 1)<|
.m 28 38<|
.nil)))))
def T84_2 (E : List (Nat × Blk)) (D : Den) (W : DrawFn) (K1 : Nat → Nat → Int → Nat → Nat → Nat → Nat → V → V → H → Ans) (R2 : Nat → Nat → Int → Nat → Nat → Nat → Nat → V → V → V → Int → Int → H → Ans) (a b : Nat) (c : Int) (d e f g : Nat) (h i j : V) (k l : Int) (σ : H) : Ans :=
 condK (ltF l k) (
 iaddrSK 1 j l fun b1 o2 =>
 ldK E σ b1 o2 fun u3 =>
 callK (D 156 [u3, (V.fn 157 [] [(V.ptr d e)])] σ) fun u4 s5 =>
 rtBool u4 fun x6 =>
 let s7 := newB s5 (.cells [(V.bool x6)]);
 appK E 1 1 i (V.sl (H.next s5) 0 1 (.ex 1)) s7 fun u8 s9 =>
 rtOne u8 (
 R2 a b c d e f g h u8 j k (addF .i64 l (Int.ofNat 1)) s9)) (
 K1 a b c d e f g h i σ)
def C84_3 : XC := (.seq (.keep q84b [] [] (.gdraw G84_0 H84_0 [(0, .ptr), (5, .ptr), (6, .ptr), (7, .any), (8, .any), (11, .bool)]))
 (.z (.m 65 11<|
.nil)
 (.cond (.tmp 65) (.ops (.m 66 0<|
.O 67 y1 (.load (some 13) (.t 6))<|
.O 68 y2 (.load (some 6) (.t 5))<|
.m 69 7<|
.m 70 8<|
.k 71 y10 161 [(.t 66), (.t 67), (.t 68), (.t 69), (.t 70)]<|
.nil))
 .skip)))
def T84_3 (a b : Nat) (c : Int) (d e f g : Nat) (h i : V) (j : Bool) (σ : H) : Ans :=
 gdrawK (W G84_0 H84_0 [(0, (V.ptr a b)), (1, (V.int .i64 c)), (5, (V.ptr d e)), (6, (V.ptr f g)), (7, h), (8, i), (11, (V.bool j))] σ) fun e1 s2 =>
 getL e1 0 fun u3 =>
 rtPtr u3 fun b4 o5 =>
 getL e1 5 fun u6 =>
 rtPtr u6 fun b7 o8 =>
 getL e1 6 fun u9 =>
 rtPtr u9 fun b10 o11 =>
 getL e1 7 fun u12 =>
 getL e1 8 fun u13 =>
 getL e1 11 fun u14 =>
 rtBool u14 fun x15 =>
 condK x15 (
 ldnK E s2 b10 o11 13 fun l16 =>
 xcI .i64 l16 fun x19 l18 =>
 rtCons l18 fun x20 l21 =>
 xcB l21 fun x24 l23 =>
 xcB l23 fun x27 l26 =>
 xcB l26 fun x30 l29 =>
 xcB l29 fun x33 l32 =>
 xcI .i64 l32 fun x36 l35 =>
 xcI .i64 l35 fun x39 l38 =>
 rtCons l38 fun x40 l41 =>
 rtCons l41 fun x42 l43 =>
 xcI .i64 l43 fun x46 l45 =>
 xcB l45 fun x49 l48 =>
 xcI .i64 l48 fun x52 l51 =>
 rtNil l51 (
 ldnK E s2 b7 o8 6 fun l53 =>
 xcI .i64 l53 fun x56 l55 =>
 xcI .i64 l55 fun x59 l58 =>
 rtCons l58 fun x60 l61 =>
 rtCons l61 fun x62 l63 =>
 xcI .i64 l63 fun x66 l65 =>
 rtCons l65 fun x67 l68 =>
 rtNil l68 (
 callK (D 161 [(V.ptr b4 o5), (V.agg [(V.int .i64 x19), x20, (V.bool x24), (V.bool x27), (V.bool x30), (V.bool x33), (V.int .i64 x36), (V.int .i64 x39), x40, x42, (V.int .i64 x46), (V.bool x49), (V.int .i64 x52)]), (V.agg [(V.int .i64 x56), (V.int .i64 x59), x60, x62, (V.int .i64 x66), x67]), u12, u13] s2) fun u69 s70 =>
 rtTup u69 fun l71 =>
 rtNil l71 (
 some ((V.tup []), s70))))) (
 some ((V.tup []), s2))
def S84_0 (a b : Nat) (c d e : Int) (f g : V) (h : Int) (i : V) (σ : H) : St := ⟨[(0, (V.ptr a b)), (1, (V.int .i64 c)), (2, (V.agg [(V.int .i64 d), (V.int .i64 e), f, g, (V.int .i64 h), i]))], [], [], σ⟩
def S84_1 (a b : Nat) (c : Int) (d e f g : Nat) (h i : V) (σ : H) : St := ⟨[(0, (V.ptr a b)), (1, (V.int .i64 c)), (5, (V.ptr d e)), (6, (V.ptr f g)), (7, h), (8, i)], [], [], σ⟩
def S84_2 (a b : Nat) (c : Int) (d e f g : Nat) (h i j : V) (k l : Int) (σ : H) : St := ⟨[(0, (V.ptr a b)), (1, (V.int .i64 c)), (5, (V.ptr d e)), (6, (V.ptr f g)), (7, h), (8, i), (26, j), (27, (V.int .i64 k)), (28, (V.int .i64 l))], [], [], σ⟩
def S84_3 (a b : Nat) (c : Int) (d e f g : Nat) (h i : V) (j : Bool) (σ : H) : St := ⟨[(0, (V.ptr a b)), (1, (V.int .i64 c)), (5, (V.ptr d e)), (6, (V.ptr f g)), (7, h), (8, i), (11, (V.bool j))], [], [], σ⟩
theorem P84_0 (cc1 : XC) (cc2 : XC) (a b : Nat) (c d e : Int) (f g : V) (h : Int) (i : V) (σ : H) :
 denC E D W N (C84_0 cc1 cc2) (S84_0 a b c d e f g h i σ) (Fin84 E) nX (Fin84 E) =
 T84_0 E D W (fun a b c j k l m o p q r s σ => iterK (fun rec s' => denC E D W N cc2 s' (kX q84a [] [] rec) (b84a E D W N cc1) (Fin84 E)) N (S84_2 a b c j k l m o p q r s σ)) a b c d e f g h i σ := by kernel_rfl
theorem P84_1 (cc3 : XC) (a b : Nat) (c : Int) (d e f g : Nat) (h i : V) (σ : H) :
 denC E D W N (C84_1 cc3) (S84_1 a b c d e f g h i σ) (Fin84 E) nX (Fin84 E) =
 T84_1 E D W (fun a b c d e f g h i j σ => denC E D W N cc3 (S84_3 a b c d e f g h i j σ) (Fin84 E) nX (Fin84 E)) a b c d e f g h i σ := by kernel_rfl
theorem P84_2 (cc1 : XC) (li2 : St → Ans) (a b : Nat) (c : Int) (d e f g : Nat) (h i j : V) (k l : Int) (σ : H) :
 denC E D W N (C84_2 ) (S84_2 a b c d e f g h i j k l σ) (kX q84a [] [] li2) (b84a E D W N cc1) (Fin84 E) =
 T84_2 E D W (fun a b c d e f g h i σ => denC E D W N cc1 (S84_1 a b c d e f g h i σ) (Fin84 E) nX (Fin84 E)) (fun a b c d e f g h i j k l σ => li2 (S84_2 a b c d e f g h i j k l σ)) a b c d e f g h i j k l σ := by kernel_rfl
theorem P84_3 (a b : Nat) (c : Int) (d e f g : Nat) (h i : V) (j : Bool) (σ : H) :
 denC E D W N (C84_3 ) (S84_3 a b c d e f g h i j σ) (Fin84 E) nX (Fin84 E) =
 T84_3 E D W  a b c d e f g h i j σ := by kernel_rfl
def J84_3 (E : List (Nat × Blk)) (D : Den) (W : DrawFn) (N : Nat) := T84_3 E D W
theorem JE84_3 (a b : Nat) (c : Int) (d e f g : Nat) (h i : V) (j : Bool) (σ : H) :
 denC E D W N C84_3 (S84_3 a b c d e f g h i j σ) (Fin84 E) nX (Fin84 E) = J84_3 E D W N a b c d e f g h i j σ := by
 refine (P84_3 E D W N   a b c d e f g h i j σ).trans ?_
 kernel_rfl
def J84_1 := T84_1 E D W (J84_3 E D W N )
theorem JE84_1 (a b : Nat) (c : Int) (d e f g : Nat) (h i : V) (σ : H) :
 denC E D W N (C84_1 C84_3) (S84_1 a b c d e f g h i σ) (Fin84 E) nX (Fin84 E) = J84_1 E D W N a b c d e f g h i σ := by
 refine (P84_1 E D W N C84_3  a b c d e f g h i σ).trans ?_
 simp only [JE84_3]
 kernel_rfl
def L84_2 (n : Nat) : Nat → Nat → Int → Nat → Nat → Nat → Nat → V → V → V → Int → Int → H → Ans :=
 Nat.rec (fun _ _ _ _ _ _ _ _ _ _ _ _ _ => none) (fun _ ih => T84_2 E D W (J84_1 E D W N ) ih) n
theorem LE84_2 (n : Nat) : ∀ (a b : Nat) (c : Int) (d e f g : Nat) (h i j : V) (k l : Int) (σ : H),
 iterK (fun rec s' => denC E D W N C84_2 s' (kX q84a [] [] rec) (b84a E D W N (C84_1 C84_3)) (Fin84 E)) n (S84_2 a b c d e f g h i j k l σ) = L84_2 E D W N n a b c d e f g h i j k l σ := by
 induction n with
 | zero => intro a b c d e f g h i j k l σ; rfl
 | succ n ihn =>
  intro a b c d e f g h i j k l σ
  rw [iterK_succ]
  refine (P84_2 E D W N (C84_1 C84_3) (iterK (fun rec s' => denC E D W N C84_2 s' (kX q84a [] [] rec) (b84a E D W N (C84_1 C84_3)) (Fin84 E)) n) a b c d e f g h i j k l σ).trans ?_
  simp only [ihn, JE84_1]
  kernel_rfl
def J84_0 := T84_0 E D W (L84_2 E D W N N)
theorem JE84_0 (a b : Nat) (c d e : Int) (f g : V) (h : Int) (i : V) (σ : H) :
 denC E D W N (C84_0 (C84_1 C84_3) C84_2) (S84_0 a b c d e f g h i σ) (Fin84 E) nX (Fin84 E) = J84_0 E D W N a b c d e f g h i σ := by
 refine (P84_0 E D W N (C84_1 C84_3) C84_2  a b c d e f g h i σ).trans ?_
 simp only [LE84_2]
 kernel_rfl
def F84 (args : List V) (σ : H) : Ans :=
 rtCons args fun x1 l2 =>
 rtPtr x1 fun b3 o4 =>
 xcI .i64 l2 fun x7 l6 =>
 rtCons l6 fun x8 l9 =>
 rtAgg x8 fun l10 =>
 xcI .i64 l10 fun x13 l12 =>
 xcI .i64 l12 fun x16 l15 =>
 rtCons l15 fun x17 l18 =>
 rtCons l18 fun x19 l20 =>
 xcI .i64 l20 fun x23 l22 =>
 rtCons l22 fun x24 l25 =>
 rtNil l25 (
 rtNil l9 (
 J84_0 E D W N b3 o4 x7 x13 x16 x17 x19 x23 x24 σ))
def A84 : XFn := ⟨72, [.ptr, .i, y2], [], (C84_0 (C84_1 C84_3) C84_2)⟩
theorem FE84 (args : List V) (σ : H) : runX E D W N A84 args σ = F84 E D W N args σ := by
 unfold F84
 simp only [← JE84_0]
 kernel_rfl
def Fin85 (E : List (Nat × Blk)) : St → Ans := fun s => resK E s [(.tmp 2)] fun l => some (oneV l, s.σ)
def C85_0 : XC := (.z (.q 2 0<|
.nil)
 (.seq (.z (.m 3 0<|
.b 4 .eql .ptr (.t 3) (.con V.nilp)<|
.nil)
 (.cond (.tmp 4) (.z (.q 2 0<|
.nil)
 .ret)
 .skip))
 (.z (.m 5 0<|
.n 6 5<|
.f 7 0 6<|
.k 8 .i 162 [(.t 7)]<|
.m 2 8<|
.nil)
 .ret)))
def T85_0 (E : List (Nat × Blk)) (D : Den) (W : DrawFn) (a : V) (σ : H) : Ans :=
 eqK .ptr a V.nilp fun c1 =>
 condK c1 (
 some ((V.int .i64 (Int.ofNat 0)), σ)) (
 rtPtr a fun b2 o3 =>
 callK (D 162 [(V.ptr b2 o3)] σ) fun u4 s5 =>
 rtInt .i64 u4 fun x6 =>
 some ((V.int .i64 x6), s5))
def S85_0 (a : V) (σ : H) : St := ⟨[(0, a)], [], [], σ⟩
theorem P85_0 (a : V) (σ : H) :
 denC E D W N (C85_0 ) (S85_0 a σ) (Fin85 E) nX (Fin85 E) =
 T85_0 E D W  a σ := by kernel_rfl
def J85_0 (E : List (Nat × Blk)) (D : Den) (W : DrawFn) (N : Nat) := T85_0 E D W
theorem JE85_0 (a : V) (σ : H) :
 denC E D W N C85_0 (S85_0 a σ) (Fin85 E) nX (Fin85 E) = J85_0 E D W N a σ := by
 refine (P85_0 E D W N   a σ).trans ?_
 kernel_rfl
def F85 (args : List V) (σ : H) : Ans :=
 rtCons args fun x1 l2 =>
 rtNil l2 (
 J85_0 E D W N x1 σ)
def A85 : XFn := ⟨9, [.any], [(.tmp 2)], C85_0⟩
theorem FE85 (args : List V) (σ : H) : runX E D W N A85 args σ = F85 E D W N args σ := by
 unfold F85
 simp only [← JE85_0]
 kernel_rfl
def Fin86 (E : List (Nat × Blk)) : St → Ans := fun s => resK E s [(.tmp 2)] fun l => some (oneV l, s.σ)
def C86_0 : XC := (.z (.c 2 V.nils<|
.nil)
 (.seq (.z (.m 3 0<|
.b 4 .eql .ptr (.t 3) (.con V.nilp)<|
.nil)
 (.cond (.tmp 4) (.z (.c 2 V.nils<|
.nil)
 .ret)
 .skip))
 (.z (.m 5 0<|
.n 6 5<|
.f 7 0 6<|
.l 8 .any 7<|
.O 9 .one (.append 5 1 1 (.con V.nils) (.t 8))<|
.m 2 9<|
.nil)
 .ret)))
def T86_0 (E : List (Nat × Blk)) (D : Den) (W : DrawFn) (a : V) (σ : H) : Ans :=
 eqK .ptr a V.nilp fun c1 =>
 condK c1 (
 some (V.nils, σ)) (
 rtPtr a fun b2 o3 =>
 ldK E σ b2 o3 fun u4 =>
 appK E 1 1 V.nils u4 σ fun u5 s6 =>
 rtOne u5 (
 some (u5, s6)))
def S86_0 (a : V) (σ : H) : St := ⟨[(0, a)], [], [], σ⟩
theorem P86_0 (a : V) (σ : H) :
 denC E D W N (C86_0 ) (S86_0 a σ) (Fin86 E) nX (Fin86 E) =
 T86_0 E D W  a σ := by kernel_rfl
def J86_0 (E : List (Nat × Blk)) (D : Den) (W : DrawFn) (N : Nat) := T86_0 E D W
theorem JE86_0 (a : V) (σ : H) :
 denC E D W N C86_0 (S86_0 a σ) (Fin86 E) nX (Fin86 E) = J86_0 E D W N a σ := by
 refine (P86_0 E D W N   a σ).trans ?_
 kernel_rfl
def F86 (args : List V) (σ : H) : Ans :=
 rtCons args fun x1 l2 =>
 rtNil l2 (
 J86_0 E D W N x1 σ)
def A86 : XFn := ⟨10, [.any], [(.tmp 2)], C86_0⟩
theorem FE86 (args : List V) (σ : H) : runX E D W N A86 args σ = F86 E D W N args σ := by
 unfold F86
 simp only [← JE86_0]
 kernel_rfl
def q87a : List (Nat × List XTy) := [(10, [.i, .str, .bool, .i, .i, .bool, .bool, .bool, .bool, .i, .i, .any, .any, .i, .bool, .i])]
def q87b : List (Nat × XTy) := [(0, .any), (1, .any), (4, .i), (5, .i)]
def q87c : List (Nat × XTy) := [(0, .any), (1, .any), (4, .i)]
def Fin87 (E : List (Nat × Blk)) : St → Ans := fun s => resK E s [] fun l => some (oneV l, s.σ)
def b87a (c0 : XC) (l0 : St → Ans) : Nat → St → Ans := blkK 2 (dX E D W N (.keep q87c [] [] c0) (kX q87c [] [] l0) (blkK 0 (Fin87 E) nX) (Fin87 E)) (blkK 1 (dX E D W N (.keep q87c [] [] c0) (kX q87c [] [] l0) (blkK 0 (Fin87 E) nX) (Fin87 E)) (blkK 0 (Fin87 E) nX))
def C87_0 (cc1 : XC) : XC := (.z (.q 4 0<|
.nil)
 (.block 0 (.loop q87c [] [] cc1)))
def T87_0 (E : List (Nat × Blk)) (D : Den) (W : DrawFn) (K1 : V → V → Int → H → Ans) (a b : V) (σ : H) : Ans :=
 K1 a b (Int.ofNat 0) σ
def C87_1 (cc2 : XC) (cc3 : XC) : XC := (.seq (.z (.m 6 4<|
.m 7 1<|
.u 8 7<|
.b 9 .lss .none (.t 6) (.t 8)<|
.nil)
 y15)
 (.seq (.block 1 (.z (.q 5 0<|
.nil)
 (.block 2 (.loop q87b [] [] cc3))))
 (.keep q87c [] [] cc2)))
def T87_1 (E : List (Nat × Blk)) (D : Den) (W : DrawFn) (K3 : V → V → Int → Int → H → Ans) (a b : V) (c : Int) (σ : H) : Ans :=
 slenK b fun n1 =>
 condK (ltF c (Int.ofNat n1)) (
 K3 a b c (Int.ofNat 0) σ) (
 some ((V.tup []), σ))
def C87_2 : XC := y21
def T87_2 (E : List (Nat × Blk)) (D : Den) (W : DrawFn) (R1 : V → V → Int → H → Ans) (a b : V) (c : Int) (σ : H) : Ans :=
 R1 a b (addF .i64 c (Int.ofNat 1)) σ
def C87_3 : XC := (.seq (.z (.m 12 5<|
.m 13 1<|
.m 14 4<|
.s 15 1 13 14<|
.l 16 .any 15<|
.u 17 16<|
.b 18 .lss .none (.t 12) (.t 17)<|
.nil)
 (.cond (.tmp 18) .skip
 (.exit 2)))
 (.seq (.block 3 (.ops (.m 21 0<|
.m 22 1<|
.m 23 4<|
.s 24 1 22 23<|
.l 25 .any 24<|
.m 26 5<|
.s 27 1 25 26<|
.l 28 (.int .u8) 27<|
.P 29 (.conv (.toInt .u32) (.t 28))<|
.k 30 y10 163 [(.t 21), (.t 29), (.i 8)]<|
.nil)))
 (.ops (.m 19 5<|
.b 20 .add .none (.t 19) (.i 1)<|
.m 5 20<|
.nil))))
def T87_3 (E : List (Nat × Blk)) (D : Den) (W : DrawFn) (K2 : V → V → Int → H → Ans) (R3 : V → V → Int → Int → H → Ans) (a b : V) (c d : Int) (σ : H) : Ans :=
 iaddrSK 1 b c fun b1 o2 =>
 ldK E σ b1 o2 fun u3 =>
 slenK u3 fun n4 =>
 condK (ltF d (Int.ofNat n4)) (
 iaddrSK 1 b c fun b5 o6 =>
 ldK E σ b5 o6 fun u7 =>
 iaddrSK 1 u7 d fun b8 o9 =>
 ldK E σ b8 o9 fun u10 =>
 rtInt .u8 u10 fun x11 =>
 callK (D 163 [a, (V.int .u32 (wrapF .u32 x11)), (V.int .i64 (Int.ofNat 8))] σ) fun u12 s13 =>
 rtTup u12 fun l14 =>
 rtNil l14 (
 R3 a b c (addF .i64 d (Int.ofNat 1)) s13)) (
 K2 a b c σ)
def S87_0 (a b : V) (σ : H) : St := ⟨[(0, a), (1, b)], [], [], σ⟩
def S87_1 (a b : V) (c : Int) (σ : H) : St := ⟨[(0, a), (1, b), (4, (V.int .i64 c))], [], [], σ⟩
def S87_2 (a b : V) (c : Int) (σ : H) : St := ⟨[(0, a), (1, b), (4, (V.int .i64 c))], [], [], σ⟩
def S87_3 (a b : V) (c d : Int) (σ : H) : St := ⟨[(0, a), (1, b), (4, (V.int .i64 c)), (5, (V.int .i64 d))], [], [], σ⟩
theorem P87_0 (cc1 : XC) (a b : V) (σ : H) :
 denC E D W N (C87_0 cc1) (S87_0 a b σ) (Fin87 E) nX (Fin87 E) =
 T87_0 E D W (fun a b c σ => iterK (fun rec s' => denC E D W N cc1 s' (kX q87c [] [] rec) (blkK 0 (Fin87 E) nX) (Fin87 E)) N (S87_1 a b c σ)) a b σ := by kernel_rfl
theorem P87_1 (cc2 : XC) (cc3 : XC) (li1 : St → Ans) (a b : V) (c : Int) (σ : H) :
 denC E D W N (C87_1 cc2 cc3) (S87_1 a b c σ) (kX q87c [] [] li1) (blkK 0 (Fin87 E) nX) (Fin87 E) =
 T87_1 E D W (fun a b c d σ => iterK (fun rec s' => denC E D W N cc3 s' (kX q87b [] [] rec) (b87a E D W N cc2 li1) (Fin87 E)) N (S87_3 a b c d σ)) a b c σ := by kernel_rfl
theorem P87_2 (li1 : St → Ans) (a b : V) (c : Int) (σ : H) :
 denC E D W N (C87_2 ) (S87_2 a b c σ) (kX q87c [] [] li1) (blkK 0 (Fin87 E) nX) (Fin87 E) =
 T87_2 E D W (fun a b c σ => li1 (S87_1 a b c σ)) a b c σ := by kernel_rfl
theorem P87_3 (cc2 : XC) (li1 : St → Ans) (li3 : St → Ans) (a b : V) (c d : Int) (σ : H) :
 denC E D W N (C87_3 ) (S87_3 a b c d σ) (kX q87b [] [] li3) (b87a E D W N cc2 li1) (Fin87 E) =
 T87_3 E D W (fun a b c σ => denC E D W N cc2 (S87_2 a b c σ) (kX q87c [] [] li1) (blkK 0 (Fin87 E) nX) (Fin87 E)) (fun a b c d σ => li3 (S87_3 a b c d σ)) a b c d σ := by kernel_rfl
def J87_2 (E : List (Nat × Blk)) (D : Den) (W : DrawFn) (N : Nat) (R1 : V → V → Int → H → Ans) := T87_2 E D W R1
theorem JE87_2 (li1 : St → Ans) (a b : V) (c : Int) (σ : H) :
 denC E D W N C87_2 (S87_2 a b c σ) (kX q87c [] [] li1) (blkK 0 (Fin87 E) nX) (Fin87 E) = J87_2 E D W N (fun a b c σ => li1 (S87_1 a b c σ)) a b c σ := by
 refine (P87_2 E D W N  li1 a b c σ).trans ?_
 kernel_rfl
def L87_3 (R1 : V → V → Int → H → Ans) (n : Nat) : V → V → Int → Int → H → Ans :=
 Nat.rec (fun _ _ _ _ _ => none) (fun _ ih => T87_3 E D W (J87_2 E D W N R1) ih) n
theorem LE87_3 (li1 : St → Ans) (n : Nat) : ∀ (a b : V) (c d : Int) (σ : H),
 iterK (fun rec s' => denC E D W N C87_3 s' (kX q87b [] [] rec) (b87a E D W N C87_2 li1) (Fin87 E)) n (S87_3 a b c d σ) = L87_3 E D W N (fun a b c σ => li1 (S87_1 a b c σ)) n a b c d σ := by
 induction n with
 | zero => intro a b c d σ; rfl
 | succ n ihn =>
  intro a b c d σ
  rw [iterK_succ]
  refine (P87_3 E D W N C87_2 li1 (iterK (fun rec s' => denC E D W N C87_3 s' (kX q87b [] [] rec) (b87a E D W N C87_2 li1) (Fin87 E)) n) a b c d σ).trans ?_
  simp only [ihn, JE87_2]
  kernel_rfl
def L87_1 (n : Nat) : V → V → Int → H → Ans :=
 Nat.rec (fun _ _ _ _ => none) (fun _ ih => T87_1 E D W (L87_3 E D W N ih N)) n
theorem LE87_1 (n : Nat) : ∀ (a b : V) (c : Int) (σ : H),
 iterK (fun rec s' => denC E D W N (C87_1 C87_2 C87_3) s' (kX q87c [] [] rec) (blkK 0 (Fin87 E) nX) (Fin87 E)) n (S87_1 a b c σ) = L87_1 E D W N n a b c σ := by
 induction n with
 | zero => intro a b c σ; rfl
 | succ n ihn =>
  intro a b c σ
  rw [iterK_succ]
  refine (P87_1 E D W N C87_2 C87_3 (iterK (fun rec s' => denC E D W N (C87_1 C87_2 C87_3) s' (kX q87c [] [] rec) (blkK 0 (Fin87 E) nX) (Fin87 E)) n) a b c σ).trans ?_
  simp only [ihn, LE87_3]
  kernel_rfl
def J87_0 := T87_0 E D W (L87_1 E D W N N)
theorem JE87_0 (a b : V) (σ : H) :
 denC E D W N (C87_0 (C87_1 C87_2 C87_3)) (S87_0 a b σ) (Fin87 E) nX (Fin87 E) = J87_0 E D W N a b σ := by
 refine (P87_0 E D W N (C87_1 C87_2 C87_3)  a b σ).trans ?_
 simp only [LE87_1]
 kernel_rfl
def F87 (args : List V) (σ : H) : Ans :=
 rtCons args fun x1 l2 =>
 rtCons l2 fun x3 l4 =>
 rtNil l4 (
 J87_0 E D W N x1 x3 σ)
def A87 : XFn := ⟨31, y32, [], (C87_0 (C87_1 C87_2 C87_3))⟩
theorem FE87 (args : List V) (σ : H) : runX E D W N A87 args σ = F87 E D W N args σ := by
 unfold F87
 simp only [← JE87_0]
 kernel_rfl
def C117_0 (cc1 : XC) (cc2 : XC) : XC := (.z (.q 4 0<|
.nil)
 (.seq (.block 0 (.loop [(0, .str), (1, .i)] [] [] cc2))
 (.keep [(1, .i)] [] [] cc1)))
def C117_1 : XC := (.z (.m 74 1<|
.m 4 74<|
.nil)
 .ret)
def C117_2 (cc3 : XC) : XC := (.seq (.z (.m 5 1<|
.m 6 0<|
.P 7 (.len true (.t 6))<|
.b 8 .lss .none (.t 5) (.t 7)<|
.nil)
 (.cond (.tmp 8) .skip
 y23))
 (.block 1 (.block 2 (.z (.m 11 0<|
.m 12 1<|
.P 13 (.idxStr (.t 11) (.t 12))<|
.b 14 .eql .none (.t 13) (.con (V.int .u8 (Int.ofNat 32)))<|
.m 15 14<|
.gO 15 false (.p 16 [0, 15] y16<|
.p 17 [1, 15] y17<|
.p 18 [16, 17, 15] (.idxStr (.t 16) (.t 17))<|
.p 19 [18, 15] (.bin .eql .none (.t 18) (.con (V.int .u8 (Int.ofNat 9))))<|
.nil) 20 15 19<|
.m 21 20<|
.gO 21 false (.p 22 [0, 21] y16<|
.p 23 [1, 21] y17<|
.p 24 [22, 23, 21] (.idxStr (.t 22) (.t 23))<|
.p 25 [24, 21] (.bin .eql .none (.t 24) (.con (V.int .u8 (Int.ofNat 10))))<|
.nil) 26 21 25<|
.m 27 26<|
.gO 27 false (.p 28 [0, 27] y16<|
.p 29 [1, 27] y17<|
.p 30 [28, 29, 27] (.idxStr (.t 28) (.t 29))<|
.p 31 [30, 27] (.bin .eql .none (.t 30) (.con (V.int .u8 (Int.ofNat 13))))<|
.nil) 32 27 31<|
.m 10 32<|
.nil)
 (.cond (.tmp 10) (.ops (.m 33 1<|
.b 34 .add .none (.t 33) (.i 1)<|
.m 1 34<|
.nil))
 (.z (.m 36 0<|
.m 37 1<|
.P 38 (.idxStr (.t 36) (.t 37))<|
.b 39 .eql .none (.t 38) y18<|
.m 40 39<|
.gA 40 true (.p 41 [0, 40] y16<|
.p 42 [1, 40] y17<|
.p 43 [42, 40] (.bin .add .none (.t 42) (.i 1))<|
.op (some 44) (.int .u8) [41, 43, 40] (.call 205 [(.t 41), (.t 43)])<|
.p 45 [44, 40] (.bin .eql .none (.t 44) y18)<|
.nil) 46 40 45<|
.m 35 46<|
.nil)
 (.cond (.tmp 35) (.z (.m 47 1<|
.b 48 .add .none (.t 47) (.i 2)<|
.m 1 48<|
.nil)
 (.block 3 (.loop [(0, .str), (1, .i)] [] [] cc3)))
 (.z (.m 9 1<|
.m 4 9<|
.nil)
 .ret))))))))
def C117_3 : XC := (.seq (.z (.m 49 1<|
.m 50 0<|
.P 51 (.len true (.t 50))<|
.b 52 .lss .none (.t 49) (.t 51)<|
.m 53 52<|
.gA 53 true (.p 54 [0, 53] y16<|
.p 55 [1, 53] y17<|
.p 56 [54, 55, 53] (.idxStr (.t 54) (.t 55))<|
.p 57 [56, 53] (.bin .neq .none (.t 56) (.con (V.int .u8 (Int.ofNat 10))))<|
.nil) 58 53 57<|
.nil)
 (.cond (.tmp 58) .skip
 (.exit 3)))
 (.block 4 (.seq (.z (.m 59 0<|
.m 60 1<|
.P 61 (.idxStr (.t 59) (.t 60))<|
.b 62 .eql .none (.t 61) y18<|
.m 63 62<|
.gA 63 true (.p 64 [0, 63] y16<|
.p 65 [1, 63] y17<|
.p 66 [65, 63] (.bin .add .none (.t 65) (.i 1))<|
.op (some 67) (.int .u8) [64, 66, 63] (.call 205 [(.t 64), (.t 66)])<|
.p 68 [67, 63] (.bin .eql .none (.t 67) y18)<|
.nil) 69 63 68<|
.nil)
 (.cond (.tmp 69) (.z (.m 70 1<|
.b 71 .add .none (.t 70) (.i 2)<|
.m 1 71<|
.nil)
 (.exit 3))
 .skip))
 (.ops (.m 72 1<|
.b 73 .add .none (.t 72) (.i 1)<|
.m 1 73<|
.nil)))))
def A117 : XFn := ⟨75, [.str, .i], [(.tmp 4)], (C117_0 C117_1 (C117_2 C117_3))⟩
def C118_0 (cc1 : XC) (cc2 : XC) : XC := (.z (.pal 4 [] 121 [y0, y6, y0]<|
.q 5 0<|
.nil)
 (.z (.m 10 1<|
.op (some 11) y8 [10] (.build [y0, y6, y0] [(2, 1, (.t 10))])<|
.pal 6 [] 121 [y0, y6, y0]<|
.op none y8 [6, 11] (.store 3 (.t 6) (.t 11))<|
.nil)
 (.z (.m 12 0<|
.m 13 1<|
.P 14 (.idxStr (.t 12) (.t 13))<|
.m 7 14<|
.nil)
 (.z (.c 8 y20<|
.nil)
 (.seq (.block 0 (.z (.m 32 7<|
.k 33 .bool 206 [(.t 32)]<|
.m 31 33<|
.nil)
 (.cond (.tmp 31) (.z (.m 34 0<|
.m 35 1<|
.k 36 .i 207 [(.t 34), (.t 35)]<|
.m 8 36<|
.nil)
 (.seq (.z (.m 37 8<|
.b 38 .lss .none (.t 37) (.i 0)<|
.nil)
 (.cond (.tmp 38) (.z (.O 39 y8 (.load (some 3) (.t 6))<|
.op none y8 [4, 39] (.store 3 (.t 4) (.t 39))<|
.c 5 y20<|
.nil)
 .ret)
 .skip))
 (.seq (.draw (.m 40 0<|
.m 41 1<|
.m 42 8<|
.p 43 [40, 41, 42] (.sliceStr (.t 40) (some (.t 41)) (some (.t 42)))<|
.f 44 0 6<|
.op none .any [44] (.store 1 (.t 44) (.i 2))<|
.f 45 1 6<|
.w 1 45 43<|
.nil) [0, 0, 0, 7, 0, 16, 63, 127])
 (.seq (.z (.m 46 7<|
.b 47 .leq .none (.t 46) (.con (V.int .u8 (Int.ofNat 90)))<|
.nil)
 (.cond (.tmp 47) (.ops (.f 48 0 6<|
.op none .any [48] (.store 1 (.t 48) (.i 1))<|
.nil))
 .skip))
 (.keep [(8, .i)] [4, 6] [(4, [.i, .str, .i]), (6, [.i, .str, .i])] cc2)))))
 (.z (.m 54 7<|
.k 55 .bool 209 [(.t 54)]<|
.m 56 55<|
.gO 56 false (.p 57 [7, 56] (.mov (.t 7))<|
.p 58 [57, 56] (.bin .eql .none (.t 57) y18)<|
.p 59 [58, 56] (.mov (.t 58))<|
.grp 59 true (.p 60 [0, 59] y16<|
.p 61 [1, 59] y17<|
.p 62 [61, 59] (.bin .add .none (.t 61) (.i 1))<|
.op (some 63) (.int .u8) [60, 62, 59] (.call 205 [(.t 60), (.t 62)])<|
.op (some 64) .bool [63, 59] (.call 209 [(.t 63)])<|
.nil) 65 [59, 64, 56] (.t 59) (.t 64) y33<|
.nil) 66 56 65<|
.m 53 66<|
.nil)
 (.cond (.tmp 53) (.z (.m 67 0<|
.m 68 1<|
.k 69 .i 210 [(.t 67), (.t 68)]<|
.m 8 69<|
.nil)
 (.seq (.z (.m 70 8<|
.b 71 .lss .none (.t 70) (.i 0)<|
.nil)
 (.cond (.tmp 71) (.z (.O 72 y8 (.load (some 3) (.t 6))<|
.op none y8 [4, 72] (.store 3 (.t 4) (.t 72))<|
.c 5 y20<|
.nil)
 .ret)
 .skip))
 (.draw (.m 73 0<|
.m 74 1<|
.m 75 8<|
.p 76 [73, 74, 75] (.sliceStr (.t 73) (some (.t 74)) (some (.t 75)))<|
.f 77 0 6<|
.op none .any [77] (.store 1 (.t 77) (.i 3))<|
.f 78 1 6<|
.w 1 78 76<|
.nil) [0, 0, 0, 7, 0, 16, 63, 127])))
 (.z (.m 80 7<|
.b 81 .eql .none (.t 80) (.con (V.int .u8 (Int.ofNat 39)))<|
.m 79 81<|
.nil)
 (.cond (.tmp 79) (.z (.f 82 0 6<|
.op none .any [82] (.store 1 (.t 82) (.i 4))<|
.nil)
 (.ops (.m 84 0<|
.m 85 1<|
.k 86 (.tup [.i, .str]) 211 [(.t 84), (.t 85)]<|
.m 83 86<|
.P 87 (.extract 0 (.t 83))<|
.P 88 (.extract 1 (.t 83))<|
.m 8 87<|
.f 89 1 6<|
.w 1 89 88<|
.nil)))
 (.z (.m 91 7<|
.b 92 .eql .none (.t 91) (.con (V.int .u8 (Int.ofNat 34)))<|
.m 90 92<|
.nil)
 (.cond (.tmp 90) (.z (.f 93 0 6<|
.op none .any [93] (.store 1 (.t 93) (.i 7))<|
.nil)
 (.ops (.m 95 0<|
.m 96 1<|
.k 97 (.tup [.i, .str]) 212 [(.t 95), (.t 96)]<|
.m 94 97<|
.P 98 (.extract 0 (.t 94))<|
.P 99 (.extract 1 (.t 94))<|
.m 8 98<|
.f 100 1 6<|
.w 1 100 99<|
.nil)))
 (.z (.m 15 0<|
.m 16 1<|
.k 17 .i 213 [(.t 15), (.t 16)]<|
.m 9 17<|
.nil)
 (.z (.m 18 9<|
.b 19 .gtr .none (.t 18) (.i 0)<|
.nil)
 (.cond (.tmp 19) (.draw (.m 20 0<|
.m 21 1<|
.m 22 1<|
.m 23 9<|
.b 24 .add .none (.t 22) (.t 23)<|
.p 25 [20, 21, 24] (.sliceStr (.t 20) (some (.t 21)) (some (.t 24)))<|
.m 26 1<|
.m 27 9<|
.b 28 .add .none (.t 26) (.t 27)<|
.f 29 0 6<|
.op none .any [29] (.store 1 (.t 29) (.i 6))<|
.f 30 1 6<|
.w 1 30 25<|
.m 8 28<|
.nil) [0, 0, 0, 0, 12, 31, 0, 0, 192, 0, 512, 1599, 3647, 8191])
 .skip))))))))))))
 (.keep [(8, .i)] [4, 6] [(4, [.i, .str, .i]), (6, [.i, .str, .i])] cc1))))))
def C118_1 : XC := (.z (.O 101 y8 (.load (some 3) (.t 6))<|
.m 102 8<|
.op none y8 [4, 101] (.store 3 (.t 4) (.t 101))<|
.m 5 102<|
.nil)
 .ret)
def C118_2 : XC := (.z (.f 49 1 6<|
.l 50 .str 49<|
.k 51 .bool 208 [(.t 50)]<|
.nil)
 (.cond (.tmp 51) (.ops (.f 52 0 6<|
.op none .any [52] (.store 1 (.t 52) (.i 5))<|
.nil))
 .skip))
def A118 : XFn := ⟨103, [.str, .i], [(.cell 4 (some 3)), (.tmp 5)], (C118_0 C118_1 C118_2)⟩
def C119_0 (cc1 : XC) : XC := (.z (.pal 2 [] 121 [y0, y6, y0]<|
.nil)
 (.seq (.draw (.m 4 0<|
.n 5 4<|
.f 6 0 5<|
.l 7 .any 6<|
.m 8 0<|
.n 9 8<|
.f 10 1 9<|
.l 11 .i 10<|
.s 12 3 7 11<|
.O 13 y8 (.load (some 3) (.t 12))<|
.pal 3 [] 121 [y0, y6, y0]<|
.op none y8 [3, 13] (.store 3 (.t 3) (.t 13))<|
.nil) [0, 1, 3, 7, 0, 16, 48, 112, 255, 511, 0, 2047])
 (.seq (.seq (.draw (.m 14 0<|
.n 15 14<|
.f 16 1 15<|
.l 17 .i 16<|
.b 18 .add .none (.t 17) (.i 1)<|
.m 19 0<|
.n 20 19<|
.f 21 0 20<|
.l 22 .any 21<|
.u 23 22<|
.b 24 .lss .none (.t 18) (.t 23)<|
.nil) [0, 1, 3, 7, 15, 0, 32, 96, 224, 480, 1023])
 (.cond (.tmp 24) (.ops (.m 25 0<|
.n 26 25<|
.f 27 1 26<|
.l 28 .i 27<|
.b 29 .add .none (.t 28) (.i 1)<|
.n 30 25<|
.f 31 1 30<|
.w 1 31 29<|
.nil))
 .skip))
 (.keep [] [2, 3] [(2, [.i, .str, .i]), (3, [.i, .str, .i])] cc1))))
def C119_1 : XC := (.z (.O 32 y8 (.load (some 3) (.t 3))<|
.op none y8 [2, 32] (.store 3 (.t 2) (.t 32))<|
.nil)
 .ret)
def A119 : XFn := ⟨33, [.ptr], [(.cell 2 (some 3))], (C119_0 C119_1)⟩
def C120_0 (cc1 : XC) (cc2 : XC) : XC := (.z (.P 1 (.box 121 (.t 0))<|
.c 2 y3<|
.nil)
 (.z (.p 5 [] (.buildSlice 9 10 [y6, y6, y6, y6, y6, y6, y6, y6, y6, y6] [(0, 1, (.con (V.str ⟨1, 91⟩))), (1, 1, (.con (V.str ⟨7, 22026814072246082⟩))), (2, 1, (.con (V.str ⟨4, 1280070990⟩))), (3, 1, y35), (4, 1, (.con (V.str ⟨7, 23157120498421321⟩))), (5, 1, (.con (V.str ⟨5, 361940403023⟩))), (6, 1, y36), (7, 1, (.con (V.str ⟨3, 5522771⟩))), (8, 1, (.con (V.str ⟨6, 76155295057987⟩))), (9, 1, y44)])<|
.m 3 5<|
.nil)
 (.seq (.z (.q 4 0<|
.nil)
 (.block 0 (.loop [(1, .ptr), (3, .any), (4, .i)] [] [] cc2)))
 (.keep [(1, .ptr)] [] [] cc1))))
def C120_1 : XC := (.z (.f 29 0 1<|
.l 30 .i 29<|
.b 31 .eql .none (.t 30) (.i 1)<|
.m 2 31<|
.nil)
 .ret)
def C120_2 : XC := (.seq (.z (.m 6 4<|
.m 7 3<|
.u 8 7<|
.b 9 .lss .none (.t 6) (.t 8)<|
.nil)
 y15)
 (.seq (.block 1 (.seq (.draw (.m 12 3<|
.m 13 4<|
.s 14 1 12 13<|
.l 15 .str 14<|
.f 16 1 1<|
.l 17 .str 16<|
.b 18 .eql .none (.t 15) (.t 17)<|
.m 19 18<|
.gA 19 true (.p 20 [1, 19] (.faddr 0 (.t 1))<|
.op (some 21) .i [20, 19] (.load none (.t 20))<|
.p 22 [21, 19] (.bin .eql .none (.t 21) (.i 5))<|
.p 23 [22, 19] (.mov (.t 22))<|
.grp 23 false (.p 24 [1, 23] (.faddr 0 (.t 1))<|
.op (some 25) .i [24, 23] (.load none (.t 24))<|
.p 26 [25, 23] (.bin .eql .none (.t 25) (.i 6))<|
.nil) 27 [23, 26, 19] (.t 23) y12 (.t 26)<|
.nil) 28 19 27<|
.nil) [0, 0, 3, 7, 0, 16, 63, 127, 255, 511, 1023, 2047, 4095, 8191, 16383, 32767, 65535])
 (.cond (.tmp 28) (.z (.c 2 y37<|
.nil)
 .ret)
 .skip)))
 y21))
def A120 : XFn := ⟨32, [y8], [(.tmp 2)], (C120_0 C120_1 C120_2)⟩
def C121_0 : XC := (.z (.q 2 0<|
.nil)
 (.z (.m 4 0<|
.k 5 .str 57 [(.t 4), (.i 3)]<|
.m 3 5<|
.nil)
 (.seq (.z (.m 6 3<|
.b 7 .eql .none (.t 6) (.con y6)<|
.nil)
 (.cond (.tmp 7) (.z (.q 2 0<|
.nil)
 .ret)
 .skip))
 (.z (.m 8 3<|
.k 9 .i 214 [(.t 8)]<|
.m 2 9<|
.nil)
 .ret))))
def A121 : XFn := ⟨10, [.any], [(.tmp 2)], C121_0⟩
def G122_0 : List AOper := [⟨(some 139), .mov (.tmp 1), none⟩, ⟨(some 140), .mov (.tmp 1), none⟩, ⟨(some 141), .faddr 1 (.tmp 6), none⟩, ⟨(some 142), .load none (.tmp 141), none⟩, ⟨(some 143), .nilck (.tmp 139), none⟩, ⟨(some 144), .faddr 0 (.tmp 143), none⟩, ⟨none, .store 1 (.tmp 144) (.con (V.int .i64 (Int.ofNat 11))), none⟩, ⟨(some 145), .nilck (.tmp 140), none⟩, ⟨(some 146), .faddr 1 (.tmp 145), none⟩, ⟨none, .store 1 (.tmp 146) (.tmp 142), none⟩]
def H122_0 : List DP := [⟨0, [1]⟩, ⟨0, [1]⟩, ⟨0, [6]⟩, ⟨4, [141]⟩, ⟨1, [139]⟩, ⟨17, [143]⟩, ⟨49, [144]⟩, ⟨127, [140]⟩, ⟨255, [145]⟩, ⟨511, [146, 142]⟩]
def C122_0 : XC := (.z (.m 7 0<|
.k 8 y8 60 [(.t 7)]<|
.p 6 [] (.alloc 121 [y0, y6, y0])<|
.op none y8 [6, 8] (.store 3 (.t 6) (.t 8))<|
.nil)
 (.block 0 (.z (.m 13 0<|
.n 14 13<|
.f 15 7 14<|
.l 16 .i 15<|
.b 17 .neq .none (.t 16) (.i 0)<|
.m 12 17<|
.nil)
 (.cond (.tmp 12) .skip
 (.z (.m 19 0<|
.k 20 .bool 59 [(.t 19), (.con (V.str ⟨7, 22026814072246082⟩))]<|
.m 18 20<|
.nil)
 (.cond (.tmp 18) (.ops (.m 21 1<|
.n 22 21<|
.f 23 0 22<|
.op none .any [23] (.store 1 (.t 23) (.i 1))<|
.nil))
 (.z (.m 25 0<|
.k 26 .bool 59 [(.t 25), (.con (V.str ⟨4, 1280070990⟩))]<|
.m 24 26<|
.nil)
 (.cond (.tmp 24) (.ops (.m 27 1<|
.n 28 27<|
.f 29 0 28<|
.op none .any [29] (.store 1 (.t 29) (.i 4))<|
.nil))
 (.z (.m 31 0<|
.k 32 .bool 59 [(.t 31), y35]<|
.m 30 32<|
.nil)
 (.cond (.tmp 30) (.z (.m 33 1<|
.n 34 33<|
.f 35 0 34<|
.op none .any [35] (.store 1 (.t 35) (.i 6))<|
.nil)
 (.ops (.m 36 1<|
.m 37 0<|
.k 38 y4 215 [(.t 37)]<|
.n 39 36<|
.f 40 5 39<|
.op none y4 [40, 38] (.store 6 (.t 40) (.t 38))<|
.nil)))
 (.z (.m 42 0<|
.k 43 .bool 59 [(.t 42), (.con (V.str ⟨7, 23157120498421321⟩))]<|
.m 41 43<|
.nil)
 (.cond (.tmp 41) (.z (.m 44 1<|
.n 45 44<|
.f 46 0 45<|
.op none .any [46] (.store 1 (.t 46) (.i 2))<|
.nil)
 (.z (.m 47 0<|
.k 48 .bool 59 [(.t 47), (.con (V.str ⟨1, 40⟩))]<|
.nil)
 (.cond (.tmp 48) (.z (.m 49 1<|
.m 50 0<|
.k 51 y4 216 [(.t 50)]<|
.n 52 49<|
.f 53 5 52<|
.op none y4 [53, 51] (.store 6 (.t 53) (.t 51))<|
.nil)
 (.ops (.m 54 0<|
.k 55 y10 58 [(.t 54), (.con (V.str ⟨1, 41⟩))]<|
.nil)))
 .skip)))
 (.z (.m 57 0<|
.k 58 .bool 59 [(.t 57), (.con (V.str ⟨5, 361940403023⟩))]<|
.m 56 58<|
.nil)
 (.cond (.tmp 56) (.z (.m 59 0<|
.k 60 y10 58 [(.t 59), (.con (V.str ⟨6, 78401563153491⟩))]<|
.nil)
 (.z (.m 61 1<|
.n 62 61<|
.f 63 0 62<|
.op none .any [63] (.store 1 (.t 63) (.i 5))<|
.nil)
 (.ops (.m 64 1<|
.m 65 0<|
.k 66 y4 215 [(.t 65)]<|
.n 67 64<|
.f 68 5 67<|
.op none y4 [68, 66] (.store 6 (.t 68) (.t 66))<|
.nil))))
 (.z (.m 70 0<|
.k 71 .bool 59 [(.t 70), y36]<|
.m 69 71<|
.nil)
 (.cond (.tmp 69) (.z (.m 72 1<|
.n 73 72<|
.f 74 0 73<|
.op none .any [74] (.store 1 (.t 74) (.i 3))<|
.nil)
 (.z (.m 75 0<|
.k 76 y10 58 [(.t 75), y40]<|
.nil)
 (.z (.m 77 0<|
.m 78 1<|
.k 79 y10 217 [(.t 77), (.t 78)]<|
.nil)
 (.ops (.m 80 0<|
.k 81 y10 58 [(.t 80), (.con (V.str ⟨1, 125⟩))]<|
.nil)))))
 (.z (.m 83 0<|
.k 84 .bool 59 [(.t 83), (.con (V.str ⟨3, 5522771⟩))]<|
.m 82 84<|
.nil)
 (.cond (.tmp 82) (.z (.m 85 1<|
.n 86 85<|
.f 87 0 86<|
.op none .any [87] (.store 1 (.t 87) (.i 8))<|
.nil)
 (.z (.m 88 0<|
.k 89 y10 58 [(.t 88), y40]<|
.nil)
 (.ops (.m 90 0<|
.m 91 1<|
.m 92 2<|
.k 93 y10 218 [(.t 90), (.t 91), (.t 92)]<|
.nil))))
 (.z (.m 95 0<|
.k 96 .bool 59 [(.t 95), (.con (V.str ⟨6, 76155295057987⟩))]<|
.m 94 96<|
.nil)
 (.cond (.tmp 94) (.z (.m 97 1<|
.n 98 97<|
.f 99 0 98<|
.op none .any [99] (.store 1 (.t 99) (.i 9))<|
.nil)
 (.z (.m 100 0<|
.k 101 y10 58 [(.t 100), y40]<|
.nil)
 (.ops (.m 102 0<|
.m 103 1<|
.m 104 2<|
.k 105 y10 218 [(.t 102), (.t 103), (.t 104)]<|
.nil))))
 (.z (.m 107 0<|
.k 108 .bool 59 [(.t 107), y44]<|
.m 106 108<|
.nil)
 (.cond (.tmp 106) (.seq (.z (.m 109 0<|
.k 110 .bool 59 [(.t 109), y40]<|
.nil)
 (.cond (.tmp 110) (.z (.m 111 1<|
.n 112 111<|
.f 113 0 112<|
.op none .any [113] (.store 1 (.t 113) (.i 7))<|
.nil)
 (.z (.m 114 0<|
.m 115 1<|
.m 116 2<|
.k 117 y10 218 [(.t 114), (.t 115), (.t 116)]<|
.nil)
 .ret))
 .skip))
 (.z (.m 118 1<|
.n 119 118<|
.f 120 0 119<|
.op none .any [120] (.store 1 (.t 120) (.i 10))<|
.nil)
 (.z (.m 121 1<|
.m 122 0<|
.k 123 y4 215 [(.t 122)]<|
.n 124 121<|
.f 125 5 124<|
.op none y4 [125, 123] (.store 6 (.t 125) (.t 123))<|
.nil)
 (.z (.m 126 0<|
.k 127 y10 58 [(.t 126), (.con (V.str ⟨2, 17999⟩))]<|
.nil)
 (.ops (.m 128 1<|
.m 129 0<|
.m 130 2<|
.b 131 .add .none (.t 130) (.i 1)<|
.k 132 .i 62 [(.t 129), (.t 131)]<|
.n 133 128<|
.f 134 15 133<|
.w 1 134 132<|
.nil))))))
 (.z (.f 136 0 6<|
.l 137 .i 136<|
.b 138 .eql .none (.t 137) (.i 1)<|
.m 135 138<|
.nil)
 (.cond (.tmp 135) (.seq (.keep [(0, .ptr), (1, .ptr), (6, .ptr)] [] [] (.gdraw G122_0 H122_0 [(0, .ptr)]))
 (.ops (.m 147 0<|
.k 148 y8 119 [(.t 147)]<|
.nil)))
 (.ops (.m 9 0<|
.O 10 y8 (.load (some 3) (.t 6))<|
.k 11 y10 61 [(.t 9), (.i 7), (.t 10)]<|
.nil))))))))))))))))))))))))))
def A122 : XFn := ⟨149, [.ptr, .ptr, .i], [], C122_0⟩
def C123_0 (cc1 : XC) (cc2 : XC) : XC := (.z (.c 4 y3<|
.nil)
 (.seq (.z (.q 5 0<|
.nil)
 (.block 0 (.loop [(0, .any), (1, .str), (5, .i)] [] [] cc2)))
 (.keep [] [] [] cc1)))
def C123_1 : XC := (.z (.c 4 y3<|
.nil)
 .ret)
def C123_2 : XC := (.seq (.z (.m 6 5<|
.m 7 0<|
.u 8 7<|
.b 9 .lss .none (.t 6) (.t 8)<|
.nil)
 y15)
 (.seq (.block 1 (.z (.m 12 0<|
.m 13 5<|
.s 14 1 12 13<|
.l 15 .str 14<|
.m 16 1<|
.b 17 .eql .none (.t 15) (.t 16)<|
.nil)
 y28))
 y27))
def A123 : XFn := ⟨18, [.any, .str], [(.tmp 4)], (C123_0 C123_1 C123_2)⟩
def C124_0 (cc1 : XC) (cc2 : XC) : XC := (.z (.P 4 (.box 76 (.t 0))<|
.c 8 V.nils<|
.c 9 y3<|
.nil)
 (.seq (.z (.m 16 1<|
.b 17 .lss .none (.t 16) (.i 0)<|
.m 18 17<|
.gO 18 false (.p 19 [1, 18] y17<|
.p 20 [4, 18] (.faddr 4 (.t 4))<|
.p 21 [20, 18] (.load none (.t 20))<|
.p 22 [21, 18] (.len false (.t 21))<|
.p 23 [19, 22, 18] (.bin .geq .none (.t 19) (.t 22))<|
.nil) 24 18 23<|
.m 25 24<|
.gO 25 false (.p 26 [2, 25] (.mov (.t 2))<|
.p 27 [26, 25] (.bin .gtr .none (.t 26) (.i 16))<|
.nil) 28 25 27<|
.nil)
 (.cond (.tmp 28) (.z (.m 29 3<|
.m 8 29<|
.c 9 y3<|
.nil)
 .ret)
 .skip))
 (.z (.f 30 4 4<|
.l 31 .any 30<|
.m 32 1<|
.s 33 16 31 32<|
.O 34 y5 (.load (some 16) (.t 33))<|
.pal 10 [] 183 [y0, y6, y3, y0, y0, y3, y3, y3, y3, y0, y0, V.nils, V.nils, y0, y3, y0]<|
.op none y5 [10, 34] (.store 16 (.t 10) (.t 34))<|
.nil)
 (.seq (.z (.f 35 0 10<|
.l 36 .i 35<|
.b 37 .eql .none (.t 36) (.i 11)<|
.nil)
 (.cond (.tmp 37) (.z (.O 38 y11 (.load (some 5) (.t 4))<|
.f 39 1 10<|
.l 40 .str 39<|
.k 41 .i 126 [(.t 38), (.t 40)]<|
.m 11 41<|
.nil)
 (.seq (.z (.m 42 11<|
.b 43 .lss .none (.t 42) (.i 0)<|
.nil)
 (.cond (.tmp 43) (.z (.m 44 3<|
.m 8 44<|
.c 9 y37<|
.nil)
 .ret)
 .skip))
 (.seq (.z (.m 45 3<|
.m 46 11<|
.k 47 .bool 29 [(.t 45), (.t 46)]<|
.P 48 (.un .not (.t 47))<|
.nil)
 (.cond (.tmp 48) (.ops (.m 49 3<|
.m 50 11<|
.p 51 [50] (.buildSlice 3 1 [y0] [(0, 1, (.t 50))])<|
.O 52 .one (.append 3 1 8 (.t 49) (.t 51))<|
.m 3 52<|
.nil))
 .skip))
 (.keep [(3, .any)] [] [] cc2))))
 .skip))
 (.keep [(2, .i), (3, .any), (4, .ptr)] [10] q87a cc1)))))
def C124_1 (cc3 : XC) (cc4 : XC) : XC := (.z (.c 12 y3<|
.nil)
 (.seq (.z (.q 13 0<|
.nil)
 (.block 0 (.loop [(2, .i), (3, .any), (4, .ptr), (12, .bool), (13, .i)] [10] q87a cc4)))
 (.keep [(2, .i), (3, .any), (4, .ptr), (12, .bool)] [10] q87a cc3)))
def C124_2 : XC := (.z (.m 53 3<|
.m 8 53<|
.c 9 y3<|
.nil)
 .ret)
def C124_3 (cc5 : XC) : XC := (.seq (.z (.f 79 0 10<|
.l 80 .i 79<|
.b 81 .eql .none (.t 80) (.i 10)<|
.nil)
 (.cond (.tmp 81) (.z (.c 15 y3<|
.nil)
 (.z (.O 83 y11 (.load (some 5) (.t 4))<|
.f 84 15 10<|
.l 85 .i 84<|
.m 86 2<|
.b 87 .add .none (.t 86) (.i 1)<|
.m 88 3<|
.k 89 (.tup [.any, .bool]) 124 [(.t 83), (.t 85), (.t 87), (.t 88)]<|
.m 82 89<|
.P 90 (.extract 0 (.t 82))<|
.P 91 (.extract 1 (.t 82))<|
.m 3 90<|
.m 15 91<|
.nil)
 (.ops (.m 92 12<|
.m 93 92<|
.gO 93 false (.p 94 [15, 93] (.mov (.t 15))<|
.nil) 95 93 94<|
.m 12 95<|
.nil))))
 .skip))
 (.keep [(3, .any), (12, .bool)] [] [] cc5))
def C124_4 : XC := (.seq (.z (.m 54 13<|
.f 55 12 10<|
.l 56 .any 55<|
.u 57 56<|
.b 58 .lss .none (.t 54) (.t 57)<|
.nil)
 (.cond (.tmp 58) .skip
 y23))
 (.seq (.block 1 (.z (.c 14 y3<|
.nil)
 (.seq (.draw (.O 62 y11 (.load (some 5) (.t 4))<|
.f 63 12 10<|
.l 64 .any 63<|
.m 65 13<|
.s 66 11 64 65<|
.f 67 1 66<|
.l 68 .i 67<|
.m 69 2<|
.b 70 .add .none (.t 69) (.i 1)<|
.m 71 3<|
.k 72 (.tup [.any, .bool]) 124 [(.t 62), (.t 68), (.t 70), (.t 71)]<|
.m 61 72<|
.P 73 (.extract 0 (.t 61))<|
.P 74 (.extract 1 (.t 61))<|
.m 3 73<|
.m 14 74<|
.nil) [0, 0, 2, 0, 14, 30, 62, 0, 128, 0, 1023, 2047, 4095, 4095, 8191, 32767])
 (.ops (.m 75 12<|
.m 76 75<|
.gO 76 false (.p 77 [14, 76] (.mov (.t 14))<|
.nil) 78 76 77<|
.m 12 78<|
.nil)))))
 (.ops (.m 59 13<|
.b 60 .add .none (.t 59) (.i 1)<|
.m 13 60<|
.nil))))
def C124_5 : XC := (.z (.m 96 3<|
.m 97 12<|
.m 8 96<|
.m 9 97<|
.nil)
 .ret)
def A124 : XFn := ⟨98, [y11, .i, .i, .any], [(.tmp 8), (.tmp 9)], (C124_0 (C124_1 (C124_3 C124_5) C124_4) C124_2)⟩
def C125_0 (cc1 : XC) (cc2 : XC) : XC := (.z (.c 6 y3<|
.nil)
 (.z (.p 10 [] (.buildSlice 3 0 [] [])<|
.m 7 10<|
.nil)
 (.z (.m 11 0<|
.m 12 1<|
.s 13 1 11 12<|
.l 14 .any 13<|
.O 15 .one (.append 3 1 8 (.con V.nils) (.t 14))<|
.m 8 15<|
.nil)
 (.seq (.block 0 (.loop [(0, .any), (2, .i), (7, .any), (8, .any)] [] [] cc2))
 (.keep [] [] [] cc1)))))
def C125_1 : XC := (.z (.c 6 y3<|
.nil)
 .ret)
def C125_2 : XC := (.seq (.z (.m 16 8<|
.u 17 16<|
.b 18 .gtr .none (.t 17) (.i 0)<|
.nil)
 (.cond (.tmp 18) .skip
 y23))
 (.block 1 (.z (.m 19 8<|
.P 20 (.iaddrS 1 (.t 19) (.i 0))<|
.l 21 .i 20<|
.m 9 21<|
.nil)
 (.z (.m 22 8<|
.p 23 [22] (.sliceSl 1 (.t 22) (some (.i 1)) none none)<|
.m 8 23<|
.nil)
 (.seq (.z (.m 24 9<|
.m 25 2<|
.b 26 .eql .none (.t 24) (.t 25)<|
.nil)
 (.cond (.tmp 26) (.z (.c 6 y37<|
.nil)
 .ret)
 .skip))
 (.z (.m 27 7<|
.m 28 9<|
.k 29 .bool 29 [(.t 27), (.t 28)]<|
.P 30 (.un .not (.t 29))<|
.nil)
 (.cond (.tmp 30) (.z (.m 31 7<|
.m 32 9<|
.p 33 [32] (.buildSlice 3 1 [y0] [(0, 1, (.t 32))])<|
.O 34 .one (.append 3 1 8 (.t 31) (.t 33))<|
.m 7 34<|
.nil)
 (.ops (.m 35 8<|
.m 36 0<|
.m 37 9<|
.s 38 1 36 37<|
.l 39 .any 38<|
.O 40 .one (.append 3 1 8 (.t 35) (.t 39))<|
.m 8 40<|
.nil)))
 .skip)))))))
def A125 : XFn := ⟨41, [.any, .i, .i], [(.tmp 6)], (C125_0 C125_1 C125_2)⟩
def G127_0 : List AOper := [⟨(some 45), .mov (.tmp 0), none⟩, ⟨(some 46), .mov (.tmp 0), none⟩, ⟨(some 47), .nilck (.tmp 46), none⟩, ⟨(some 48), .faddr 5 (.tmp 47), none⟩, ⟨(some 49), .load none (.tmp 48), none⟩, ⟨(some 50), .load (some 13) (.tmp 8), none⟩, ⟨(some 51), .buildSlice 145 1 [(V.int .i64 (Int.ofNat 0)), V.nils, (V.bool false), (V.bool false), (V.bool false), (V.bool false), (V.int .i64 (Int.ofNat 0)), (V.int .i64 (Int.ofNat 0)), V.nils, V.nils, (V.int .i64 (Int.ofNat 0)), (V.bool false), (V.int .i64 (Int.ofNat 0))] [(0, 13, (.tmp 50))], none⟩, ⟨(some 52), .append 145 13 128 (.tmp 49) (.tmp 51), none⟩, ⟨(some 53), .nilck (.tmp 45), none⟩, ⟨(some 54), .faddr 5 (.tmp 53), none⟩, ⟨none, .store 1 (.tmp 54) (.tmp 52), none⟩]
def H127_0 : List DP := [⟨0, [0]⟩, ⟨0, [0]⟩, ⟨2, [46]⟩, ⟨6, [47]⟩, ⟨14, [48]⟩, ⟨0, [8]⟩, ⟨32, [50]⟩, ⟨126, [49, 51]⟩, ⟨255, [45]⟩, ⟨511, [53]⟩, ⟨1023, [54, 52]⟩]
def G127_1 : List AOper := [⟨(some 97), .mov (.tmp 0), none⟩, ⟨(some 98), .nilck (.tmp 97), none⟩, ⟨(some 99), .faddr 5 (.tmp 98), none⟩, ⟨(some 100), .load none (.tmp 99), none⟩, ⟨(some 101), .mov (.tmp 7), none⟩, ⟨(some 102), .mov (.tmp 0), none⟩, ⟨(some 103), .load (some 16) (.tmp 4), none⟩, ⟨(some 104), .call 222 [(.tmp 102), (.tmp 103)], none⟩, ⟨(some 105), .iaddrS 13 (.tmp 100) (.tmp 101), none⟩, ⟨(some 106), .faddr 8 (.tmp 105), none⟩, ⟨none, .store 1 (.tmp 106) (.tmp 104), none⟩]
def H127_1 : List DP := [⟨0, [0]⟩, ⟨1, [97]⟩, ⟨3, [98]⟩, ⟨7, [99]⟩, ⟨0, [7]⟩, ⟨0, [0]⟩, ⟨0, [4]⟩, ⟨96, [102, 103]⟩, ⟨255, [100, 101]⟩, ⟨511, [105]⟩, ⟨1023, [106, 104]⟩]
def C127_0 (cc1 : XC) : XC := (.z (.P 4 (.box 183 (.t 1))<|
.q 6 0<|
.nil)
 (.seq (.z (.m 11 2<|
.b 12 .gtr .none (.t 11) (.i 16)<|
.m 13 12<|
.gO 13 false (.p 14 [0, 13] y16<|
.p 15 [14, 13] (.nilck (.t 14))<|
.p 16 [15, 13] (.faddr 5 (.t 15))<|
.p 17 [16, 13] (.load none (.t 16))<|
.p 18 [17, 13] (.len false (.t 17))<|
.p 19 [18, 13] (.bin .geq .none (.t 18) (.i 300))<|
.nil) 20 13 19<|
.nil)
 (.cond (.tmp 20) (.z (.m 21 0<|
.k 22 y10 219 [(.t 21), (.i 5)]<|
.nil)
 (.z (.q 6 0<|
.nil)
 .ret))
 .skip))
 (.z (.m 23 0<|
.n 24 23<|
.f 25 5 24<|
.l 26 .any 25<|
.u 27 26<|
.m 7 27<|
.nil)
 (.z (.f 28 0 4<|
.l 29 .i 28<|
.f 30 5 4<|
.O 31 y4 (.load (some 6) (.t 30))<|
.f 32 13 4<|
.l 33 .i 32<|
.f 34 14 4<|
.l 35 .bool 34<|
.op (some 36) y1 [29, 31, 33, 35] (.build [y0, V.nils, y3, y3, y3, y3, y0, y0, V.nils, V.nils, y0, y3, y0] [(0, 1, (.t 29)), (2, 6, (.t 31)), (10, 1, (.t 33)), (11, 1, (.t 35))])<|
.p 8 [] y19<|
.op none y1 [8, 36] (.store 13 (.t 8) (.t 36))<|
.nil)
 (.seq (.z (.f 37 0 4<|
.l 38 .i 37<|
.b 39 .neq .none (.t 38) (.i 9)<|
.nil)
 (.cond (.tmp 39) (.ops (.f 40 0 4<|
.l 41 .i 40<|
.k 42 y14 220 [(.t 41)]<|
.p 43 [42] (.buildSlice 253 1 [y0, y0] [(0, 2, (.t 42))])<|
.f 44 1 8<|
.w 1 44 43<|
.nil))
 .skip))
 (.keep [(0, .ptr), (2, .i), (4, .ptr), (7, .i), (8, .ptr)] [] [] cc1))))))
def C127_1 (cc2 : XC) (cc3 : XC) : XC := (.seq (.keep [(0, .ptr), (2, .i), (4, .ptr), (7, .i), (8, .ptr)] [] [] (.gdraw G127_0 H127_0 [(0, .ptr), (2, .i), (4, .ptr), (7, .i)]))
 (.seq (.z (.f 55 0 4<|
.l 56 .i 55<|
.nil)
 (.block 0 (.seq (.z (.b 58 .eql .none (.t 56) (.i 2)<|
.m 57 58<|
.nil)
 (.cond (.tmp 57) .skip
 (.z (.b 59 .eql .none (.t 56) (.i 5)<|
.m 57 59<|
.nil)
 (.cond (.tmp 57) .skip
 (.z (.b 60 .eql .none (.t 56) (.i 6)<|
.m 57 60<|
.nil)
 (.cond (.tmp 57) .skip
 (.ops (.b 61 .eql .none (.t 56) (.i 10)<|
.m 57 61<|
.nil))))))))
 (.keep [(0, .ptr), (2, .i), (4, .ptr), (7, .i), (56, .i), (57, .bool)] [] [] cc3))))
 (.keep [(7, .i)] [] [] cc2)))
def C127_2 : XC := (.z (.m 116 7<|
.m 6 116<|
.nil)
 .ret)
def C127_3 (cc4 : XC) (cc5 : XC) : XC := (.cond (.tmp 57) (.z (.f 62 5 4<|
.O 63 y4 (.load (some 6) (.t 62))<|
.f 64 0 4<|
.l 65 .i 64<|
.b 66 .neq .none (.t 65) (.i 2)<|
.k 67 .i 221 [(.t 63), (.t 66)]<|
.m 9 67<|
.nil)
 (.seq (.z (.m 68 9<|
.b 69 .neq .none (.t 68) (.i 0)<|
.nil)
 (.cond (.tmp 69) (.ops (.m 70 0<|
.m 71 9<|
.k 72 y10 219 [(.t 70), (.t 71)]<|
.nil))
 .skip))
 (.keep [(0, .ptr), (2, .i), (4, .ptr), (7, .i)] [] [] cc4)))
 (.z (.b 96 .eql .none (.t 56) (.i 3)<|
.m 95 96<|
.nil)
 (.cond (.tmp 95) (.keep [(0, .ptr), (4, .ptr), (7, .i)] [] [] (.gdraw G127_1 H127_1 [(7, .i)]))
 (.seq (.z (.b 108 .eql .none (.t 56) (.i 7)<|
.m 107 108<|
.nil)
 (.cond (.tmp 107) .skip
 (.z (.b 109 .eql .none (.t 56) (.i 8)<|
.m 107 109<|
.nil)
 (.cond (.tmp 107) .skip
 (.ops (.b 110 .eql .none (.t 56) (.i 9)<|
.m 107 110<|
.nil))))))
 (.keep [(0, .ptr), (2, .i), (4, .ptr), (7, .i), (107, .bool)] [] [] cc5)))))
def C127_4 : XC := (.z (.f 73 0 4<|
.l 74 .i 73<|
.b 75 .eql .none (.t 74) (.i 10)<|
.nil)
 (.cond (.tmp 75) (.z (.m 76 0<|
.f 77 15 4<|
.l 78 .i 77<|
.m 79 2<|
.b 80 .add .none (.t 79) (.i 1)<|
.k 81 .i 64 [(.t 76), (.t 78), (.t 80)]<|
.m 10 81<|
.nil)
 (.z (.m 82 0<|
.n 83 82<|
.f 84 6 83<|
.l 85 .i 84<|
.b 86 .eql .none (.t 85) (.i 0)<|
.nil)
 (.cond (.tmp 86) (.ops (.m 87 0<|
.n 88 87<|
.f 89 5 88<|
.l 90 .any 89<|
.m 91 7<|
.m 92 10<|
.s 93 13 90 91<|
.f 94 12 93<|
.w 1 94 92<|
.nil))
 .skip)))
 .skip))
def C127_5 : XC := (.cond (.tmp 107) (.ops (.m 111 0<|
.m 112 7<|
.O 113 y5 (.load (some 16) (.t 4))<|
.m 114 2<|
.k 115 y10 223 [(.t 111), (.t 112), (.t 113), (.t 114)]<|
.nil))
 .skip)
def A127 : XFn := ⟨117, [.ptr, y5, .i], [(.tmp 6)], (C127_0 (C127_1 C127_2 (C127_3 C127_4 C127_5)))⟩
def C128_0 : XC := (.z (.q 4 0<|
.nil)
 (.seq (.z (.m 5 0<|
.n 6 5<|
.f 7 5 6<|
.l 8 .any 7<|
.m 9 1<|
.s 10 13 8 9<|
.f 11 1 10<|
.l 12 .any 11<|
.u 13 12<|
.b 14 .gtr .none (.t 13) (.i 0)<|
.nil)
 (.cond (.tmp 14) (.z (.q 4 1<|
.nil)
 .ret)
 .skip))
 (.z (.q 4 0<|
.nil)
 .ret)))
def A128 : XFn := ⟨15, [.ptr, .i], [(.tmp 4)], C128_0⟩
def C129_0 : XC := (.seq (.z (.m 10 0<|
.n 11 10<|
.f 12 6 11<|
.l 13 .i 12<|
.b 14 .neq .none (.t 13) (.i 0)<|
.nil)
 (.cond (.tmp 14) .ret
 .skip))
 (.z (.m 16 0<|
.n 17 16<|
.f 18 5 17<|
.l 19 .any 18<|
.m 20 1<|
.s 21 13 19 20<|
.f 22 1 21<|
.l 23 .any 22<|
.m 24 2<|
.m 25 3<|
.k 26 (.tup [.any, .i]) 224 [(.t 23), (.t 24), (.t 25)]<|
.m 15 26<|
.P 27 (.extract 0 (.t 15))<|
.P 28 (.extract 1 (.t 15))<|
.m 8 27<|
.m 9 28<|
.nil)
 (.seq (.z (.m 29 9<|
.b 30 .neq .none (.t 29) (.i 0)<|
.nil)
 (.cond (.tmp 30) (.z (.m 31 0<|
.m 32 9<|
.k 33 y10 219 [(.t 31), (.t 32)]<|
.nil)
 .ret)
 .skip))
 (.ops (.m 34 0<|
.n 35 34<|
.f 36 5 35<|
.l 37 .any 36<|
.m 38 1<|
.m 39 8<|
.s 40 13 37 38<|
.f 41 1 40<|
.w 1 41 39<|
.nil)))))
def A129 : XFn := ⟨42, [.ptr, .i, .i, .i], [], C129_0⟩
def Fin131 (E : List (Nat × Blk)) : St → Ans := fun s => resK E s [(.tmp 4)] fun l => some (oneV l, s.σ)
def C131_0 : XC := (.z (.P 2 (.box 38 (.t 0))<|
.c 4 y3<|
.nil)
 (.z (.m 5 1<|
.b 6 .and .none (.t 5) (.i 1)<|
.b 7 .neq .none (.t 6) (.i 0)<|
.m 8 7<|
.gO 8 false (.p 9 [2, 8] (.faddr 1 (.t 2))<|
.op (some 10) .i [9, 8] (.load none (.t 9))<|
.p 11 [10, 8] (.bin .eql .none (.t 10) (.i 0))<|
.nil) 12 8 11<|
.m 13 12<|
.gA 13 true (.p 14 [1, 13] y17<|
.p 15 [14, 13] (.bin .and .none (.t 14) (.i 2))<|
.p 16 [15, 13] (.bin .neq .none (.t 15) (.i 0))<|
.p 17 [16, 13] (.mov (.t 16))<|
.grp 17 false (.p 18 [2, 17] (.faddr 2 (.t 2))<|
.p 19 [18, 17] (.load none (.t 18))<|
.p 20 [19, 17] (.len false (.t 19))<|
.p 21 [20, 17] (.bin .eql .none (.t 20) (.i 0))<|
.nil) 22 [17, 21, 13] (.t 17) y12 (.t 21)<|
.nil) 23 13 22<|
.m 24 23<|
.gA 24 true (.p 25 [1, 24] y17<|
.p 26 [25, 24] (.bin .and .none (.t 25) (.i 4))<|
.p 27 [26, 24] (.bin .neq .none (.t 26) (.i 0))<|
.p 28 [27, 24] (.mov (.t 27))<|
.grp 28 false (.p 29 [2, 28] (.faddr 3 (.t 2))<|
.p 30 [29, 28] (.load none (.t 29))<|
.p 31 [30, 28] (.len false (.t 30))<|
.p 32 [31, 28] (.bin .eql .none (.t 31) (.i 0))<|
.nil) 33 [28, 32, 24] (.t 28) y12 (.t 32)<|
.nil) 34 24 33<|
.m 35 34<|
.gA 35 true (.p 36 [1, 35] y17<|
.p 37 [36, 35] (.bin .and .none (.t 36) (.i 8))<|
.p 38 [37, 35] (.bin .neq .none (.t 37) (.i 0))<|
.p 39 [38, 35] (.mov (.t 38))<|
.grp 39 false (.p 40 [2, 39] (.faddr 4 (.t 2))<|
.op (some 41) .i [40, 39] (.load none (.t 40))<|
.p 42 [41, 39] (.bin .eql .none (.t 41) (.i 0))<|
.p 43 [42, 39] (.mov (.t 42))<|
.grp 43 true (.p 44 [2, 43] (.faddr 5 (.t 2))<|
.p 45 [44, 43] (.load none (.t 44))<|
.p 46 [45, 43] (.len false (.t 45))<|
.p 47 [46, 43] (.bin .eql .none (.t 46) (.i 0))<|
.nil) 48 [43, 47, 39] (.t 43) (.t 47) y33<|
.nil) 49 [39, 48, 35] (.t 39) y12 (.t 48)<|
.nil) 50 35 49<|
.m 4 50<|
.nil)
 .ret))
def T131_0 (E : List (Nat × Blk)) (D : Den) (W : DrawFn) (a b : Int) (c d : V) (e : Int) (f : V) (g : Int) (σ : H) : Ans :=
 nbK [(V.int .i64 a), (V.int .i64 b), c, d, (V.int .i64 e), f] σ fun s1 =>
 joinB (fun c2 s3 =>
 joinB (fun c5 s6 =>
 joinB (fun c8 s9 =>
 joinB (fun c11 s12 =>
 some ((V.bool c11), s12)) fun k13 =>
 condK c8 (
 joinB (fun c14 s15 =>
 k13 c14 s15) fun k16 =>
 condK (not (eqF (andF .i64 g (Int.ofNat 8)) (Int.ofNat 0))) (
 k16 true s9) (
 ldK E s9 (H.next σ) 4 fun u17 =>
 rtInt .i64 u17 fun x18 =>
 joinB (fun c19 s20 =>
 k16 c19 s20) fun k21 =>
 condK (eqF x18 (Int.ofNat 0)) (
 ldK E s9 (H.next σ) 5 fun u22 =>
 slenK u22 fun n23 =>
 k21 (eqF (Int.ofNat n23) (Int.ofNat 0)) s9) (
 k21 false s9))) (
 k13 false s9)) fun k10 =>
 condK c5 (
 joinB (fun c24 s25 =>
 k10 c24 s25) fun k26 =>
 condK (not (eqF (andF .i64 g (Int.ofNat 4)) (Int.ofNat 0))) (
 k26 true s6) (
 ldK E s6 (H.next σ) 3 fun u27 =>
 slenK u27 fun n28 =>
 k26 (eqF (Int.ofNat n28) (Int.ofNat 0)) s6)) (
 k10 false s6)) fun k7 =>
 condK c2 (
 joinB (fun c29 s30 =>
 k7 c29 s30) fun k31 =>
 condK (not (eqF (andF .i64 g (Int.ofNat 2)) (Int.ofNat 0))) (
 k31 true s3) (
 ldK E s3 (H.next σ) 2 fun u32 =>
 slenK u32 fun n33 =>
 k31 (eqF (Int.ofNat n33) (Int.ofNat 0)) s3)) (
 k7 false s3)) fun k4 =>
 condK (not (eqF (andF .i64 g (Int.ofNat 1)) (Int.ofNat 0))) (
 k4 true s1) (
 ldK E s1 (H.next σ) 1 fun u34 =>
 rtInt .i64 u34 fun x35 =>
 k4 (eqF x35 (Int.ofNat 0)) s1)
def S131_0 (a b : Int) (c d : V) (e : Int) (f : V) (g : Int) (σ : H) : St := ⟨[(0, (V.agg [(V.int .i64 a), (V.int .i64 b), c, d, (V.int .i64 e), f])), (1, (V.int .i64 g))], [], [], σ⟩
theorem P131_0 (a b : Int) (c d : V) (e : Int) (f : V) (g : Int) (σ : H) :
 denC E D W N (C131_0 ) (S131_0 a b c d e f g σ) (Fin131 E) nX (Fin131 E) =
 T131_0 E D W  a b c d e f g σ := by kernel_rfl
def J131_0 (E : List (Nat × Blk)) (D : Den) (W : DrawFn) (N : Nat) := T131_0 E D W
theorem JE131_0 (a b : Int) (c d : V) (e : Int) (f : V) (g : Int) (σ : H) :
 denC E D W N C131_0 (S131_0 a b c d e f g σ) (Fin131 E) nX (Fin131 E) = J131_0 E D W N a b c d e f g σ := by
 refine (P131_0 E D W N   a b c d e f g σ).trans ?_
 kernel_rfl
def F131 (args : List V) (σ : H) : Ans :=
 rtCons args fun x1 l2 =>
 rtAgg x1 fun l3 =>
 xcI .i64 l3 fun x6 l5 =>
 xcI .i64 l5 fun x9 l8 =>
 rtCons l8 fun x10 l11 =>
 rtCons l11 fun x12 l13 =>
 xcI .i64 l13 fun x16 l15 =>
 rtCons l15 fun x17 l18 =>
 rtNil l18 (
 xcI .i64 l2 fun x21 l20 =>
 rtNil l20 (
 J131_0 E D W N x6 x9 x10 x12 x16 x17 x21 σ))
def A131 : XFn := ⟨51, [y2, .i], [(.tmp 4)], C131_0⟩
theorem FE131 (args : List V) (σ : H) : runX E D W N A131 args σ = F131 E D W N args σ := by
 unfold F131
 simp only [← JE131_0]
 kernel_rfl
def Fin132 (E : List (Nat × Blk)) : St → Ans := fun s => resK E s [(.tmp 4)] fun l => some (oneV l, s.σ)
def C132_0 : XC := (.z (.P 2 (.box 141 (.t 0))<|
.c 4 y3<|
.nil)
 (.z (.f 5 0 2<|
.l 6 .bool 5<|
.P 7 (.un .not (.t 6))<|
.m 8 7<|
.gO 8 false (.p 9 [2, 8] (.faddr 1 (.t 2))<|
.op (some 10) .bool [9, 8] (.load none (.t 9))<|
.p 11 [10, 8] (.un .not (.t 10))<|
.p 12 [11, 8] (.mov (.t 11))<|
.grp 12 false (.p 13 [1, 12] y17<|
.p 14 [2, 12] (.faddr 4 (.t 2))<|
.op (some 15) .i [14, 12] (.load none (.t 14))<|
.p 16 [13, 15, 12] (.bin .geq .none (.t 13) (.t 15))<|
.nil) 17 [12, 16, 8] (.t 12) y12 (.t 16)<|
.p 18 [17, 8] (.mov (.t 17))<|
.grp 18 true (.p 19 [2, 18] (.faddr 2 (.t 2))<|
.op (some 20) .bool [19, 18] (.load none (.t 19))<|
.p 21 [20, 18] (.un .not (.t 20))<|
.p 22 [21, 18] (.mov (.t 21))<|
.grp 22 false (.p 23 [1, 22] y17<|
.p 24 [2, 22] (.faddr 5 (.t 2))<|
.op (some 25) .i [24, 22] (.load none (.t 24))<|
.p 26 [23, 25, 22] (.bin .leq .none (.t 23) (.t 25))<|
.nil) 27 [22, 26, 18] (.t 22) y12 (.t 26)<|
.nil) 28 [18, 27, 8] (.t 18) (.t 27) y33<|
.nil) 29 8 28<|
.m 4 29<|
.nil)
 .ret))
def T132_0 (E : List (Nat × Blk)) (D : Den) (W : DrawFn) (a b c d : Bool) (e f g : Int) (σ : H) : Ans :=
 nbK [(V.bool a), (V.bool b), (V.bool c), (V.bool d), (V.int .i64 e), (V.int .i64 f)] σ fun s1 =>
 ldK E s1 (H.next σ) 0 fun u2 =>
 rtBool u2 fun x3 =>
 joinB (fun c4 s5 =>
 some ((V.bool c4), s5)) fun k6 =>
 condK (not x3) (
 k6 true s1) (
 ldK E s1 (H.next σ) 1 fun u7 =>
 rtBool u7 fun x8 =>
 joinB (fun c9 s10 =>
 joinB (fun c12 s13 =>
 k6 c12 s13) fun k14 =>
 condK c9 (
 ldK E s10 (H.next σ) 2 fun u15 =>
 rtBool u15 fun x16 =>
 joinB (fun c17 s18 =>
 k14 c17 s18) fun k19 =>
 condK (not x16) (
 k19 true s10) (
 ldK E s10 (H.next σ) 5 fun u20 =>
 rtInt .i64 u20 fun x21 =>
 k19 (leF g x21) s10)) (
 k14 false s10)) fun k11 =>
 condK (not x8) (
 k11 true s1) (
 ldK E s1 (H.next σ) 4 fun u22 =>
 rtInt .i64 u22 fun x23 =>
 k11 (leF x23 g) s1))
def S132_0 (a b c d : Bool) (e f g : Int) (σ : H) : St := ⟨[(0, (V.agg [(V.bool a), (V.bool b), (V.bool c), (V.bool d), (V.int .i64 e), (V.int .i64 f)])), (1, (V.int .i64 g))], [], [], σ⟩
theorem P132_0 (a b c d : Bool) (e f g : Int) (σ : H) :
 denC E D W N (C132_0 ) (S132_0 a b c d e f g σ) (Fin132 E) nX (Fin132 E) =
 T132_0 E D W  a b c d e f g σ := by kernel_rfl
def J132_0 (E : List (Nat × Blk)) (D : Den) (W : DrawFn) (N : Nat) := T132_0 E D W
theorem JE132_0 (a b c d : Bool) (e f g : Int) (σ : H) :
 denC E D W N C132_0 (S132_0 a b c d e f g σ) (Fin132 E) nX (Fin132 E) = J132_0 E D W N a b c d e f g σ := by
 refine (P132_0 E D W N   a b c d e f g σ).trans ?_
 kernel_rfl
def F132 (args : List V) (σ : H) : Ans :=
 rtCons args fun x1 l2 =>
 rtAgg x1 fun l3 =>
 xcB l3 fun x6 l5 =>
 xcB l5 fun x9 l8 =>
 xcB l8 fun x12 l11 =>
 xcB l11 fun x15 l14 =>
 xcI .i64 l14 fun x18 l17 =>
 xcI .i64 l17 fun x21 l20 =>
 rtNil l20 (
 xcI .i64 l2 fun x24 l23 =>
 rtNil l23 (
 J132_0 E D W N x6 x9 x12 x15 x18 x21 x24 σ))
def A132 : XFn := ⟨30, [y4, .i], [(.tmp 4)], C132_0⟩
theorem FE132 (args : List V) (σ : H) : runX E D W N A132 args σ = F132 E D W N args σ := by
 unfold F132
 simp only [← JE132_0]
 kernel_rfl
def q136a : List (Nat × List XTy) := [(9, [.i, .any, .bool, .bool, .bool, .bool, .i, .i, .any, .any, .i, .bool, .i])]
def q136b : List (Nat × XTy) := [(0, .ptr), (1, .i), (3, .i), (6, .ptr), (42, .any), (43, .i), (44, .i)]
def q136c : List (Nat × XTy) := [(0, .ptr), (1, .i), (6, .ptr)]
def Fin136 (E : List (Nat × Blk)) : St → Ans := fun s => resK E s [(.tmp 8)] fun l => some (oneV l, s.σ)
def b136a (c0 : XC) : Nat → St → Ans := blkK 0 (dX E D W N (.keep q136c [] [] c0) (Fin136 E) nX (Fin136 E)) nX
def C136_0 (cc1 : XC) (cc2 : XC) : XC := (.z (.P 6 (.box 38 (.t 2))<|
.c 8 y3<|
.nil)
 (.z (.m 13 0<|
.n 14 13<|
.f 15 0 14<|
.f 16 0 15<|
.f 17 3 16<|
.l 18 .any 17<|
.m 19 1<|
.s 20 13 18 19<|
.O 21 y1 (.load (some 13) (.t 20))<|
.pal 9 [] 145 [y0, V.nils, y3, y3, y3, y3, y0, y0, V.nils, V.nils, y0, y3, y0]<|
.op none y1 [9, 21] (.store 13 (.t 9) (.t 21))<|
.nil)
 (.seq (.z (.O 22 y2 (.load (some 6) (.t 6))<|
.k 23 .bool 131 [(.t 22), (.i 12)]<|
.P 24 (.un .not (.t 23))<|
.m 25 24<|
.gO 25 false (.p 26 [6, 25] (.faddr 3 (.t 6))<|
.p 27 [26, 25] (.load none (.t 26))<|
.p 28 [27, 25] (.len false (.t 27))<|
.p 29 [9, 25] (.faddr 9 (.t 9))<|
.p 30 [29, 25] (.load none (.t 29))<|
.p 31 [30, 25] (.len false (.t 30))<|
.p 32 [28, 31, 25] (.bin .neq .none (.t 28) (.t 31))<|
.nil) 33 25 32<|
.m 34 33<|
.gO 34 false (.p 35 [0, 34] y16<|
.p 36 [1, 34] y17<|
.op (some 37) y2 [6, 34] (.load (some 6) (.t 6))<|
.op (some 38) .bool [35, 36, 37, 34] (.call 230 [(.t 35), (.t 36), (.t 37)])<|
.p 39 [38, 34] (.un .not (.t 38))<|
.nil) 40 34 39<|
.nil)
 (.cond (.tmp 40) (.z (.c 8 y3<|
.nil)
 .ret)
 .skip))
 (.seq (.z (.f 41 9 9<|
.l 42 .any 41<|
.u 43 42<|
.q 44 0<|
.nil)
 (.block 0 (.loop q136b [9] q136a cc2)))
 (.keep q136c [] [] cc1)))))
def T136_0 (E : List (Nat × Blk)) (D : Den) (W : DrawFn) (K2 : Nat → Nat → Int → Int → Nat → Nat → V → Int → Int → Int → V → Bool → Bool → Bool → Bool → Int → Int → V → V → Int → Bool → Int → H → Ans) (a b : Nat) (c d e : Int) (f g : V) (h : Int) (i : V) (j : Int) (σ : H) : Ans :=
 nbK [(V.int .i64 d), (V.int .i64 e), f, g, (V.int .i64 h), i] σ fun s1 =>
 ldK E s1 a (Nat.add b 3) fun u2 =>
 iaddrSK 13 u2 c fun b3 o4 =>
 ldnK E s1 b3 o4 13 fun l5 =>
 xcI .i64 l5 fun x8 l7 =>
 rtCons l7 fun x9 l10 =>
 xcB l10 fun x13 l12 =>
 xcB l12 fun x16 l15 =>
 xcB l15 fun x19 l18 =>
 xcB l18 fun x22 l21 =>
 xcI .i64 l21 fun x25 l24 =>
 xcI .i64 l24 fun x28 l27 =>
 rtCons l27 fun x29 l30 =>
 rtCons l30 fun x31 l32 =>
 xcI .i64 l32 fun x35 l34 =>
 xcB l34 fun x38 l37 =>
 xcI .i64 l37 fun x41 l40 =>
 rtNil l40 (
 chk (allOne [(V.int .i64 x8), x9, (V.bool x13), (V.bool x16), (V.bool x19), (V.bool x22), (V.int .i64 x25), (V.int .i64 x28), x29, x31, (V.int .i64 x35), (V.bool x38), (V.int .i64 x41)]) (
 ldnK E s1 (H.next σ) 0 6 fun l42 =>
 xcI .i64 l42 fun x45 l44 =>
 xcI .i64 l44 fun x48 l47 =>
 rtCons l47 fun x49 l50 =>
 rtCons l50 fun x51 l52 =>
 xcI .i64 l52 fun x55 l54 =>
 rtCons l54 fun x56 l57 =>
 rtNil l57 (
 callK (D 131 [(V.agg [(V.int .i64 x45), (V.int .i64 x48), x49, x51, (V.int .i64 x55), x56]), (V.int .i64 (Int.ofNat 12))] s1) fun u58 s59 =>
 rtBool u58 fun x60 =>
 joinB (fun c61 s62 =>
 joinB (fun c64 s65 =>
 condK c64 (
 some ((V.bool false), s65)) (
 slenK x31 fun n67 =>
 K2 a b c j (H.next σ) 0 x31 (Int.ofNat n67) (Int.ofNat 0) x8 x9 x13 x16 x19 x22 x25 x28 x29 x31 x35 x38 x41 s65)) fun k66 =>
 condK c61 (
 k66 true s62) (
 ldnK E s62 (H.next σ) 0 6 fun l68 =>
 xcI .i64 l68 fun x71 l70 =>
 xcI .i64 l70 fun x74 l73 =>
 rtCons l73 fun x75 l76 =>
 rtCons l76 fun x77 l78 =>
 xcI .i64 l78 fun x81 l80 =>
 rtCons l80 fun x82 l83 =>
 rtNil l83 (
 callK (D 230 [(V.ptr a b), (V.int .i64 c), (V.agg [(V.int .i64 x71), (V.int .i64 x74), x75, x77, (V.int .i64 x81), x82])] s62) fun u84 s85 =>
 rtBool u84 fun x86 =>
 k66 (not x86) s85))) fun k63 =>
 condK (not x60) (
 k63 true s59) (
 ldK E s59 (H.next σ) 3 fun u87 =>
 slenK u87 fun n88 =>
 slenK x31 fun n89 =>
 k63 (not (eqF (Int.ofNat n88) (Int.ofNat n89))) s59))))
def C136_1 : XC := (.z (.m 87 0<|
.m 88 1<|
.O 89 y2 (.load (some 6) (.t 6))<|
.k 90 .bool 233 [(.t 87), (.t 88), (.t 89)]<|
.m 8 90<|
.nil)
 .ret)
def T136_1 (E : List (Nat × Blk)) (D : Den) (W : DrawFn) (a b : Nat) (c : Int) (d e : Nat) (σ : H) : Ans :=
 ldnK E σ d e 6 fun l1 =>
 xcI .i64 l1 fun x4 l3 =>
 xcI .i64 l3 fun x7 l6 =>
 rtCons l6 fun x8 l9 =>
 rtCons l9 fun x10 l11 =>
 xcI .i64 l11 fun x14 l13 =>
 rtCons l13 fun x15 l16 =>
 rtNil l16 (
 callK (D 233 [(V.ptr a b), (V.int .i64 c), (V.agg [(V.int .i64 x4), (V.int .i64 x7), x8, x10, (V.int .i64 x14), x15])] σ) fun u17 s18 =>
 rtBool u17 fun x19 =>
 some ((V.bool x19), s18))
def C136_2 (cc3 : XC) : XC := (.z (.b 45 .lss .none (.t 44) (.t 43)<|
.nil)
 (.seq (.cond (.tmp 45) .skip
 y23)
 (.seq (.block 1 (.z (.m 46 44<|
.s 47 11 42 44<|
.O 48 y9 (.load (some 11) (.t 47))<|
.pal 11 [] 200 [y6, y0, y3, y3, y0, y0, V.nils, V.nils, y0, V.nils, y0]<|
.m 10 46<|
.op none y9 [11, 48] (.store 11 (.t 11) (.t 48))<|
.nil)
 (.z (.f 49 3 6<|
.l 50 .any 49<|
.m 51 10<|
.s 52 6 50 51<|
.O 53 y2 (.load (some 6) (.t 52))<|
.pal 12 [] 38 [y0, y0, V.nils, V.nils, y0, V.nils]<|
.op none y2 [12, 53] (.store 6 (.t 12) (.t 53))<|
.nil)
 (.block 2 (.z (.f 55 0 12<|
.l 56 .i 55<|
.b 57 .eql .none (.t 56) (.i 0)<|
.m 54 57<|
.nil)
 (.cond (.tmp 54) (.z (.O 58 y2 (.load (some 6) (.t 12))<|
.k 59 .bool 158 [(.t 58)]<|
.P 60 (.un .not (.t 59))<|
.m 61 60<|
.gO 61 false (.op (some 62) y1 [9, 61] (.load (some 13) (.t 9))<|
.p 63 [10, 61] (.mov (.t 10))<|
.op (some 64) .bool [62, 63, 61] (.call 231 [(.t 62), (.t 63)])<|
.p 65 [64, 61] (.un .not (.t 64))<|
.nil) 66 61 65<|
.nil)
 (.cond (.tmp 66) (.z (.c 8 y3<|
.nil)
 .ret)
 .skip))
 (.z (.m 68 0<|
.f 69 1 11<|
.l 70 .i 69<|
.O 71 y2 (.load (some 6) (.t 12))<|
.m 72 3<|
.b 73 .add .none (.t 72) (.i 1)<|
.k 74 .bool 65 [(.t 68), (.t 70), (.t 71), (.t 73)]<|
.P 75 (.un .not (.t 74))<|
.m 76 75<|
.gO 76 false (.p 77 [11, 76] (.faddr 3 (.t 11))<|
.op (some 78) .bool [77, 76] (.load none (.t 77))<|
.p 79 [78, 76] (.mov (.t 78))<|
.grp 79 true (.op (some 80) y2 [12, 79] (.load (some 6) (.t 12))<|
.p 81 [11, 79] (.faddr 4 (.t 11))<|
.op (some 82) y2 [81, 79] (.load (some 6) (.t 81))<|
.op (some 83) .bool [80, 82, 79] (.call 232 [(.t 80), (.t 82)])<|
.nil) 84 [79, 83, 76] (.t 79) (.t 83) y33<|
.nil) 85 76 84<|
.m 67 85<|
.nil)
 (.cond (.tmp 67) (.z (.c 8 y3<|
.nil)
 .ret)
 .skip))))))))
 (.keep q136b [9] q136a cc3))))
def T136_2 (E : List (Nat × Blk)) (D : Den) (W : DrawFn) (K1 : Nat → Nat → Int → Nat → Nat → H → Ans) (K3 : Nat → Nat → Int → Int → Nat → Nat → V → Int → Int → Int → V → Bool → Bool → Bool → Bool → Int → Int → V → V → Int → Bool → Int → H → Ans) (a b : Nat) (c d : Int) (e f : Nat) (g : V) (h i j : Int) (k : V) (l m o p : Bool) (q r : Int) (s t : V) (u : Int) (v : Bool) (w : Int) (σ : H) : Ans :=
 condK (ltF i h) (
 iaddrSK 11 g i fun b1 o2 =>
 ldnK E σ b1 o2 11 fun l3 =>
 xcS l3 fun x6 l5 =>
 xcI .i64 l5 fun x9 l8 =>
 xcB l8 fun x12 l11 =>
 xcB l11 fun x15 l14 =>
 xcI .i64 l14 fun x18 l17 =>
 xcI .i64 l17 fun x21 l20 =>
 rtCons l20 fun x22 l23 =>
 rtCons l23 fun x24 l25 =>
 xcI .i64 l25 fun x28 l27 =>
 rtCons l27 fun x29 l30 =>
 xcI .i64 l30 fun x33 l32 =>
 rtNil l32 (
 chk (allOne [(V.str x6), (V.int .i64 x9), (V.bool x12), (V.bool x15), (V.int .i64 x18), (V.int .i64 x21), x22, x24, (V.int .i64 x28), x29, (V.int .i64 x33)]) (
 ldK E σ e (Nat.add f 3) fun u34 =>
 iaddrSK 6 u34 i fun b35 o36 =>
 ldnK E σ b35 o36 6 fun l37 =>
 xcI .i64 l37 fun x40 l39 =>
 xcI .i64 l39 fun x43 l42 =>
 rtCons l42 fun x44 l45 =>
 rtCons l45 fun x46 l47 =>
 xcI .i64 l47 fun x50 l49 =>
 rtCons l49 fun x51 l52 =>
 rtNil l52 (
 chk (allOne [(V.int .i64 x40), (V.int .i64 x43), x44, x46, (V.int .i64 x50), x51]) (
 condK (eqF x40 (Int.ofNat 0)) (
 callK (D 158 [(V.agg [(V.int .i64 x40), (V.int .i64 x43), x44, x46, (V.int .i64 x50), x51])] σ) fun u53 s54 =>
 rtBool u53 fun x55 =>
 joinB (fun c56 s57 =>
 condK c56 (
 some ((V.bool false), s57)) (
 K3 a b c d e f g h i j k l m o p q r s t u v w s57)) fun k58 =>
 condK (not x55) (
 k58 true s54) (
 callK (D 231 [(V.agg [(V.int .i64 j), k, (V.bool l), (V.bool m), (V.bool o), (V.bool p), (V.int .i64 q), (V.int .i64 r), s, t, (V.int .i64 u), (V.bool v), (V.int .i64 w)]), (V.int .i64 i)] s54) fun u59 s60 =>
 rtBool u59 fun x61 =>
 k58 (not x61) s60)) (
 callK (D 65 [(V.ptr a b), (V.int .i64 x9), (V.agg [(V.int .i64 x40), (V.int .i64 x43), x44, x46, (V.int .i64 x50), x51]), (V.int .i64 (addF .i64 d (Int.ofNat 1)))] σ) fun u62 s63 =>
 rtBool u62 fun x64 =>
 joinB (fun c65 s66 =>
 condK c65 (
 some ((V.bool false), s66)) (
 K3 a b c d e f g h i j k l m o p q r s t u v w s66)) fun k67 =>
 condK (not x64) (
 k67 true s63) (
 joinB (fun c68 s69 =>
 k67 c68 s69) fun k70 =>
 condK x15 (
 callK (D 232 [(V.agg [(V.int .i64 x40), (V.int .i64 x43), x44, x46, (V.int .i64 x50), x51]), (V.agg [(V.int .i64 x18), (V.int .i64 x21), x22, x24, (V.int .i64 x28), x29])] s63) fun u71 s72 =>
 rtBool u71 fun x73 =>
 k70 x73 s72) (
 k70 false s63)))))))) (
 K1 a b c e f σ)
def C136_3 : XC := (.ops (.b 86 .add .none (.t 44) (.i 1)<|
.m 44 86<|
.nil))
def T136_3 (E : List (Nat × Blk)) (D : Den) (W : DrawFn) (R2 : Nat → Nat → Int → Int → Nat → Nat → V → Int → Int → Int → V → Bool → Bool → Bool → Bool → Int → Int → V → V → Int → Bool → Int → H → Ans) (a b : Nat) (c d : Int) (e f : Nat) (g : V) (h i j : Int) (k : V) (l m o p : Bool) (q r : Int) (s t : V) (u : Int) (v : Bool) (w : Int) (σ : H) : Ans :=
 R2 a b c d e f g h (addF .i64 i (Int.ofNat 1)) j k l m o p q r s t u v w σ
def S136_0 (a b : Nat) (c d e : Int) (f g : V) (h : Int) (i : V) (j : Int) (σ : H) : St := ⟨[(0, (V.ptr a b)), (1, (V.int .i64 c)), (2, (V.agg [(V.int .i64 d), (V.int .i64 e), f, g, (V.int .i64 h), i])), (3, (V.int .i64 j))], [], [], σ⟩
def S136_1 (a b : Nat) (c : Int) (d e : Nat) (σ : H) : St := ⟨[(0, (V.ptr a b)), (1, (V.int .i64 c)), (6, (V.ptr d e))], [], [], σ⟩
def S136_2 (a b : Nat) (c d : Int) (e f : Nat) (g : V) (h i j : Int) (k : V) (l m o p : Bool) (q r : Int) (s t : V) (u : Int) (v : Bool) (w : Int) (σ : H) : St := ⟨[(0, (V.ptr a b)), (1, (V.int .i64 c)), (3, (V.int .i64 d)), (6, (V.ptr e f)), (42, g), (43, (V.int .i64 h)), (44, (V.int .i64 i))], [(9, (9, 0))], [(9, [(V.int .i64 j), k, (V.bool l), (V.bool m), (V.bool o), (V.bool p), (V.int .i64 q), (V.int .i64 r), s, t, (V.int .i64 u), (V.bool v), (V.int .i64 w)])], σ⟩
def S136_3 (a b : Nat) (c d : Int) (e f : Nat) (g : V) (h i j : Int) (k : V) (l m o p : Bool) (q r : Int) (s t : V) (u : Int) (v : Bool) (w : Int) (σ : H) : St := ⟨[(0, (V.ptr a b)), (1, (V.int .i64 c)), (3, (V.int .i64 d)), (6, (V.ptr e f)), (42, g), (43, (V.int .i64 h)), (44, (V.int .i64 i))], [(9, (9, 0))], [(9, [(V.int .i64 j), k, (V.bool l), (V.bool m), (V.bool o), (V.bool p), (V.int .i64 q), (V.int .i64 r), s, t, (V.int .i64 u), (V.bool v), (V.int .i64 w)])], σ⟩
theorem P136_0 (cc1 : XC) (cc2 : XC) (a b : Nat) (c d e : Int) (f g : V) (h : Int) (i : V) (j : Int) (σ : H) :
 denC E D W N (C136_0 cc1 cc2) (S136_0 a b c d e f g h i j σ) (Fin136 E) nX (Fin136 E) =
 T136_0 E D W (fun a b c j k l m o p q r s t u v w x y z B I M σ => iterK (fun rec s' => denC E D W N cc2 s' (kX q136b [9] q136a rec) (b136a E D W N cc1) (Fin136 E)) N (S136_2 a b c j k l m o p q r s t u v w x y z B I M σ)) a b c d e f g h i j σ := by kernel_rfl
theorem P136_1 (a b : Nat) (c : Int) (d e : Nat) (σ : H) :
 denC E D W N (C136_1 ) (S136_1 a b c d e σ) (Fin136 E) nX (Fin136 E) =
 T136_1 E D W  a b c d e σ := by kernel_rfl
theorem P136_2 (cc1 : XC) (cc3 : XC) (li2 : St → Ans) (a b : Nat) (c d : Int) (e f : Nat) (g : V) (h i j : Int) (k : V) (l m o p : Bool) (q r : Int) (s t : V) (u : Int) (v : Bool) (w : Int) (σ : H) :
 denC E D W N (C136_2 cc3) (S136_2 a b c d e f g h i j k l m o p q r s t u v w σ) (kX q136b [9] q136a li2) (b136a E D W N cc1) (Fin136 E) =
 T136_2 E D W (fun a b c e f σ => denC E D W N cc1 (S136_1 a b c e f σ) (Fin136 E) nX (Fin136 E)) (fun a b c d e f g h i j k l m o p q r s t u v w σ => denC E D W N cc3 (S136_3 a b c d e f g h i j k l m o p q r s t u v w σ) (kX q136b [9] q136a li2) (b136a E D W N cc1) (Fin136 E)) a b c d e f g h i j k l m o p q r s t u v w σ := by kernel_rfl
theorem P136_3 (cc1 : XC) (li2 : St → Ans) (a b : Nat) (c d : Int) (e f : Nat) (g : V) (h i j : Int) (k : V) (l m o p : Bool) (q r : Int) (s t : V) (u : Int) (v : Bool) (w : Int) (σ : H) :
 denC E D W N (C136_3 ) (S136_3 a b c d e f g h i j k l m o p q r s t u v w σ) (kX q136b [9] q136a li2) (b136a E D W N cc1) (Fin136 E) =
 T136_3 E D W (fun a b c d e f g h i j k l m o p q r s t u v w σ => li2 (S136_2 a b c d e f g h i j k l m o p q r s t u v w σ)) a b c d e f g h i j k l m o p q r s t u v w σ := by kernel_rfl
def J136_1 (E : List (Nat × Blk)) (D : Den) (W : DrawFn) (N : Nat) := T136_1 E D W
theorem JE136_1 (a b : Nat) (c : Int) (d e : Nat) (σ : H) :
 denC E D W N C136_1 (S136_1 a b c d e σ) (Fin136 E) nX (Fin136 E) = J136_1 E D W N a b c d e σ := by
 refine (P136_1 E D W N   a b c d e σ).trans ?_
 kernel_rfl
def J136_3 (E : List (Nat × Blk)) (D : Den) (W : DrawFn) (N : Nat) (R2 : Nat → Nat → Int → Int → Nat → Nat → V → Int → Int → Int → V → Bool → Bool → Bool → Bool → Int → Int → V → V → Int → Bool → Int → H → Ans) := T136_3 E D W R2
theorem JE136_3 (li2 : St → Ans) (a b : Nat) (c d : Int) (e f : Nat) (g : V) (h i j : Int) (k : V) (l m o p : Bool) (q r : Int) (s t : V) (u : Int) (v : Bool) (w : Int) (σ : H) :
 denC E D W N C136_3 (S136_3 a b c d e f g h i j k l m o p q r s t u v w σ) (kX q136b [9] q136a li2) (b136a E D W N C136_1) (Fin136 E) = J136_3 E D W N (fun a b c d e f g h i j k l m o p q r s t u v w σ => li2 (S136_2 a b c d e f g h i j k l m o p q r s t u v w σ)) a b c d e f g h i j k l m o p q r s t u v w σ := by
 refine (P136_3 E D W N C136_1 li2 a b c d e f g h i j k l m o p q r s t u v w σ).trans ?_
 kernel_rfl
def L136_2 (n : Nat) : Nat → Nat → Int → Int → Nat → Nat → V → Int → Int → Int → V → Bool → Bool → Bool → Bool → Int → Int → V → V → Int → Bool → Int → H → Ans :=
 Nat.rec (fun _ _ _ _ _ _ _ _ _ _ _ _ _ _ _ _ _ _ _ _ _ _ _ => none) (fun _ ih => T136_2 E D W (J136_1 E D W N ) (J136_3 E D W N ih)) n
theorem LE136_2 (n : Nat) : ∀ (a b : Nat) (c d : Int) (e f : Nat) (g : V) (h i j : Int) (k : V) (l m o p : Bool) (q r : Int) (s t : V) (u : Int) (v : Bool) (w : Int) (σ : H),
 iterK (fun rec s' => denC E D W N (C136_2 C136_3) s' (kX q136b [9] q136a rec) (b136a E D W N C136_1) (Fin136 E)) n (S136_2 a b c d e f g h i j k l m o p q r s t u v w σ) = L136_2 E D W N n a b c d e f g h i j k l m o p q r s t u v w σ := by
 induction n with
 | zero => intro a b c d e f g h i j k l m o p q r s t u v w σ; rfl
 | succ n ihn =>
  intro a b c d e f g h i j k l m o p q r s t u v w σ
  rw [iterK_succ]
  refine (P136_2 E D W N C136_1 C136_3 (iterK (fun rec s' => denC E D W N (C136_2 C136_3) s' (kX q136b [9] q136a rec) (b136a E D W N C136_1) (Fin136 E)) n) a b c d e f g h i j k l m o p q r s t u v w σ).trans ?_
  simp only [ihn, JE136_1, JE136_3]
  kernel_rfl
def J136_0 := T136_0 E D W (L136_2 E D W N N)
theorem JE136_0 (a b : Nat) (c d e : Int) (f g : V) (h : Int) (i : V) (j : Int) (σ : H) :
 denC E D W N (C136_0 C136_1 (C136_2 C136_3)) (S136_0 a b c d e f g h i j σ) (Fin136 E) nX (Fin136 E) = J136_0 E D W N a b c d e f g h i j σ := by
 refine (P136_0 E D W N C136_1 (C136_2 C136_3)  a b c d e f g h i j σ).trans ?_
 simp only [LE136_2]
 kernel_rfl
def F136 (args : List V) (σ : H) : Ans :=
 rtCons args fun x1 l2 =>
 rtPtr x1 fun b3 o4 =>
 xcI .i64 l2 fun x7 l6 =>
 rtCons l6 fun x8 l9 =>
 rtAgg x8 fun l10 =>
 xcI .i64 l10 fun x13 l12 =>
 xcI .i64 l12 fun x16 l15 =>
 rtCons l15 fun x17 l18 =>
 rtCons l18 fun x19 l20 =>
 xcI .i64 l20 fun x23 l22 =>
 rtCons l22 fun x24 l25 =>
 rtNil l25 (
 xcI .i64 l9 fun x28 l27 =>
 rtNil l27 (
 J136_0 E D W N b3 o4 x7 x13 x16 x17 x19 x23 x24 x28 σ))
def A136 : XFn := ⟨91, [.ptr, .i, y2, .i], [(.tmp 8)], (C136_0 C136_1 (C136_2 C136_3))⟩
theorem FE136 (args : List V) (σ : H) : runX E D W N A136 args σ = F136 E D W N args σ := by
 unfold F136
 simp only [← JE136_0]
 kernel_rfl
def C137_0 (cc1 : XC) (cc2 : XC) : XC := (.z (.q 4 0<|
.nil)
 (.seq (.z (.m 6 0<|
.u 7 6<|
.q 8 0<|
.nil)
 (.block 0 (.loop [(0, .any), (1, .any), (7, .i), (8, .i)] [] [] cc2)))
 (.keep [] [] [] cc1)))
def C137_1 : XC := (.z (.c 4 y20<|
.nil)
 .ret)
def C137_2 : XC := (.z (.b 9 .lss .none (.t 8) (.t 7)<|
.nil)
 (.seq y15
 (.seq (.block 1 (.z (.m 10 8<|
.m 5 10<|
.nil)
 (.z (.m 11 1<|
.m 12 0<|
.m 13 5<|
.s 14 13 12 13<|
.O 15 y1 (.load (some 13) (.t 14))<|
.O 16 .bool (.callv (.t 11) [(.t 15)])<|
.nil)
 y24)))
 y26)))
def A137 : XFn := ⟨19, y32, [(.tmp 4)], (C137_0 C137_1 C137_2)⟩
def q138a : List (Nat × XTy) := [(0, .any), (1, .any), (7, .i), (8, .i)]
def Fin138 (E : List (Nat × Blk)) : St → Ans := fun s => resK E s [(.tmp 4)] fun l => some (oneV l, s.σ)
def b138a (c0 : XC) : Nat → St → Ans := blkK 0 (dX E D W N (.keep [] [] [] c0) (Fin138 E) nX (Fin138 E)) nX
def C138_0 (cc1 : XC) (cc2 : XC) : XC := (.z (.q 4 0<|
.nil)
 (.seq (.z (.m 6 0<|
.u 7 6<|
.q 8 0<|
.nil)
 (.block 0 (.loop q138a [] [] cc2)))
 (.keep [] [] [] cc1)))
def T138_0 (E : List (Nat × Blk)) (D : Den) (W : DrawFn) (K2 : V → V → Int → Int → H → Ans) (a b : V) (σ : H) : Ans :=
 slenK a fun n1 =>
 K2 a b (Int.ofNat n1) (Int.ofNat 0) σ
def C138_1 : XC := (.z (.c 4 y20<|
.nil)
 .ret)
def T138_1 (E : List (Nat × Blk)) (D : Den) (W : DrawFn) (σ : H) : Ans :=
 some ((V.int .i64 (Int.negSucc 0)), σ)
def C138_2 : XC := (.z (.b 9 .lss .none (.t 8) (.t 7)<|
.nil)
 (.seq y15
 (.seq (.block 1 (.z (.m 10 8<|
.m 5 10<|
.nil)
 (.z (.m 11 1<|
.m 12 0<|
.m 13 5<|
.s 14 6 12 13<|
.O 15 y2 (.load (some 6) (.t 14))<|
.O 16 .bool (.callv (.t 11) [(.t 15)])<|
.nil)
 y24)))
 y26)))
def T138_2 (E : List (Nat × Blk)) (D : Den) (W : DrawFn) (K1 : H → Ans) (R2 : V → V → Int → Int → H → Ans) (a b : V) (c d : Int) (σ : H) : Ans :=
 condK (ltF d c) (
 iaddrSK 6 a d fun b1 o2 =>
 ldnK E σ b1 o2 6 fun l3 =>
 xcI .i64 l3 fun x6 l5 =>
 xcI .i64 l5 fun x9 l8 =>
 rtCons l8 fun x10 l11 =>
 rtCons l11 fun x12 l13 =>
 xcI .i64 l13 fun x16 l15 =>
 rtCons l15 fun x17 l18 =>
 rtNil l18 (
 callvK D b [(V.agg [(V.int .i64 x6), (V.int .i64 x9), x10, x12, (V.int .i64 x16), x17])] σ fun u19 s20 =>
 rtBool u19 fun x21 =>
 condK x21 (
 some ((V.int .i64 d), s20)) (
 R2 a b c (addF .i64 d (Int.ofNat 1)) s20))) (
 K1 σ)
def S138_0 (a b : V) (σ : H) : St := ⟨[(0, a), (1, b)], [], [], σ⟩
def S138_1 (σ : H) : St := ⟨[], [], [], σ⟩
def S138_2 (a b : V) (c d : Int) (σ : H) : St := ⟨[(0, a), (1, b), (7, (V.int .i64 c)), (8, (V.int .i64 d))], [], [], σ⟩
theorem P138_0 (cc1 : XC) (cc2 : XC) (a b : V) (σ : H) :
 denC E D W N (C138_0 cc1 cc2) (S138_0 a b σ) (Fin138 E) nX (Fin138 E) =
 T138_0 E D W (fun a b c d σ => iterK (fun rec s' => denC E D W N cc2 s' (kX q138a [] [] rec) (b138a E D W N cc1) (Fin138 E)) N (S138_2 a b c d σ)) a b σ := by kernel_rfl
theorem P138_1 (σ : H) :
 denC E D W N (C138_1 ) (S138_1 σ) (Fin138 E) nX (Fin138 E) =
 T138_1 E D W   σ := by kernel_rfl
theorem P138_2 (cc1 : XC) (li2 : St → Ans) (a b : V) (c d : Int) (σ : H) :
 denC E D W N (C138_2 ) (S138_2 a b c d σ) (kX q138a [] [] li2) (b138a E D W N cc1) (Fin138 E) =
 T138_2 E D W (fun  σ => denC E D W N cc1 (S138_1 σ) (Fin138 E) nX (Fin138 E)) (fun a b c d σ => li2 (S138_2 a b c d σ)) a b c d σ := by kernel_rfl
def J138_1 (E : List (Nat × Blk)) (D : Den) (W : DrawFn) (N : Nat) := T138_1 E D W
theorem JE138_1 (σ : H) :
 denC E D W N C138_1 (S138_1 σ) (Fin138 E) nX (Fin138 E) = J138_1 E D W N  σ := by
 refine (P138_1 E D W N    σ).trans ?_
 kernel_rfl
def L138_2 (n : Nat) : V → V → Int → Int → H → Ans :=
 Nat.rec (fun _ _ _ _ _ => none) (fun _ ih => T138_2 E D W (J138_1 E D W N ) ih) n
theorem LE138_2 (n : Nat) : ∀ (a b : V) (c d : Int) (σ : H),
 iterK (fun rec s' => denC E D W N C138_2 s' (kX q138a [] [] rec) (b138a E D W N C138_1) (Fin138 E)) n (S138_2 a b c d σ) = L138_2 E D W N n a b c d σ := by
 induction n with
 | zero => intro a b c d σ; rfl
 | succ n ihn =>
  intro a b c d σ
  rw [iterK_succ]
  refine (P138_2 E D W N C138_1 (iterK (fun rec s' => denC E D W N C138_2 s' (kX q138a [] [] rec) (b138a E D W N C138_1) (Fin138 E)) n) a b c d σ).trans ?_
  simp only [ihn, JE138_1]
  kernel_rfl
def J138_0 := T138_0 E D W (L138_2 E D W N N)
theorem JE138_0 (a b : V) (σ : H) :
 denC E D W N (C138_0 C138_1 C138_2) (S138_0 a b σ) (Fin138 E) nX (Fin138 E) = J138_0 E D W N a b σ := by
 refine (P138_0 E D W N C138_1 C138_2  a b σ).trans ?_
 simp only [LE138_2]
 kernel_rfl
def F138 (args : List V) (σ : H) : Ans :=
 rtCons args fun x1 l2 =>
 rtCons l2 fun x3 l4 =>
 rtNil l4 (
 J138_0 E D W N x1 x3 σ)
def A138 : XFn := ⟨19, y32, [(.tmp 4)], (C138_0 C138_1 C138_2)⟩
theorem FE138 (args : List V) (σ : H) : runX E D W N A138 args σ = F138 E D W N args σ := by
 unfold F138
 simp only [← JE138_0]
 kernel_rfl
def Fin139 (E : List (Nat × Blk)) : St → Ans := fun s => resK E s [] fun l => some (oneV l, s.σ)
def C139_0 : XC := (.seq (.z (.m 6 0<|
.b 7 .eql .ptr (.t 6) (.con V.nilp)<|
.nil)
 (.cond (.tmp 7) .ret
 .skip))
 (.z (.m 8 2<|
.k 9 .i 182 [(.t 8)]<|
.m 2 9<|
.nil)
 (.z (.m 10 0<|
.n 11 10<|
.f 12 0 11<|
.m 13 1<|
.b 14 .shr .none (.t 13) (.con (V.int .u64 (Int.ofNat 32)))<|
.P 15 (.conv (.toInt .u32) (.t 14))<|
.m 16 2<|
.b 17 .sub .none (.t 16) (.i 32)<|
.k 18 y10 234 [(.t 12), (.t 15), (.t 17)]<|
.nil)
 (.ops (.m 19 0<|
.n 20 19<|
.f 21 0 20<|
.m 22 1<|
.P 23 (.conv (.toInt .u32) (.t 22))<|
.m 24 2<|
.p 25 [24] (.min (.t 24) [(.i 32)])<|
.k 26 y10 234 [(.t 21), (.t 23), (.t 25)]<|
.nil)))))
def T139_0 (E : List (Nat × Blk)) (D : Den) (W : DrawFn) (a : V) (b c : Int) (σ : H) : Ans :=
 eqK .ptr a V.nilp fun c1 =>
 condK c1 (
 some ((V.tup []), σ)) (
 callK (D 182 [(V.int .i64 c)] σ) fun u2 s3 =>
 rtInt .i64 u2 fun x4 =>
 rtPtr a fun b5 o6 =>
 callK (D 234 [(V.ptr b5 o6), (V.int .u32 (wrapF .u32 (shrF .u64 b 32))), (V.int .i64 (subF .i64 x4 (Int.ofNat 32)))] s3) fun u7 s8 =>
 rtTup u7 fun l9 =>
 rtNil l9 (
 rtPtr a fun b10 o11 =>
 callK (D 234 [(V.ptr b10 o11), (V.int .u32 (wrapF .u32 b)), (V.int .i64 (minF x4 (Int.ofNat 32)))] s8) fun u12 s13 =>
 rtTup u12 fun l14 =>
 rtNil l14 (
 some ((V.tup []), s13))))
def S139_0 (a : V) (b c : Int) (σ : H) : St := ⟨[(0, a), (1, (V.int .u64 b)), (2, (V.int .i64 c))], [], [], σ⟩
theorem P139_0 (a : V) (b c : Int) (σ : H) :
 denC E D W N (C139_0 ) (S139_0 a b c σ) (Fin139 E) nX (Fin139 E) =
 T139_0 E D W  a b c σ := by kernel_rfl
def J139_0 (E : List (Nat × Blk)) (D : Den) (W : DrawFn) (N : Nat) := T139_0 E D W
theorem JE139_0 (a : V) (b c : Int) (σ : H) :
 denC E D W N C139_0 (S139_0 a b c σ) (Fin139 E) nX (Fin139 E) = J139_0 E D W N a b c σ := by
 refine (P139_0 E D W N   a b c σ).trans ?_
 kernel_rfl
def F139 (args : List V) (σ : H) : Ans :=
 rtCons args fun x1 l2 =>
 xcI .u64 l2 fun x5 l4 =>
 xcI .i64 l4 fun x8 l7 =>
 rtNil l7 (
 J139_0 E D W N x1 x5 x8 σ)
def A139 : XFn := ⟨27, [.any, (.int .u64), .i], [], C139_0⟩
theorem FE139 (args : List V) (σ : H) : runX E D W N A139 args σ = F139 E D W N args σ := by
 unfold F139
 simp only [← JE139_0]
 kernel_rfl
def C140_0 : XC := (.z (.P 1 (.box 141 (.t 0))<|
.c 2 y22<|
.c 3 y3<|
.nil)
 (.z (.O 5 y4 (.load (some 6) (.t 1))<|
.op (some 6) y4 [5] (.build [y3, y3, y3, y3, y0, y0] [(0, 6, (.t 5))])<|
.pal 4 [] 266 [y3, y3, y3, y3, y0, y0]<|
.op none y4 [4, 6] (.store 6 (.t 4) (.t 6))<|
.nil)
 (.seq (.z (.O 7 y4 (.load (some 6) (.t 4))<|
.k 8 .bool 235 [(.t 7)]<|
.P 9 (.un .not (.t 8))<|
.m 10 9<|
.gO 10 false (.op (some 11) y4 [4, 10] (.load (some 6) (.t 4))<|
.op (some 12) .bool [11, 10] (.call 236 [(.t 11)])<|
.nil) 13 10 12<|
.nil)
 (.cond (.tmp 13) (.z (.c 2 y22<|
.c 3 y3<|
.nil)
 .ret)
 .skip))
 (.z (.f 14 0 4<|
.f 15 5 14<|
.l 16 .i 15<|
.P 17 (.conv (.toInt .u64) (.t 16))<|
.f 18 0 4<|
.f 19 4 18<|
.l 20 .i 19<|
.P 21 (.conv (.toInt .u64) (.t 20))<|
.b 22 .sub .none (.t 17) (.t 21)<|
.m 2 22<|
.c 3 y37<|
.nil)
 .ret))))
def A140 : XFn := ⟨23, [y4], [(.tmp 2), (.tmp 3)], C140_0⟩
def Fin141 (E : List (Nat × Blk)) : St → Ans := fun s => resK E s [] fun l => some (oneV l, s.σ)
def C141_0 : XC := (.ops (.m 6 0<|
.m 7 1<|
.m 8 2<|
.p 9 [7, 8] (.min (.t 7) [(.t 8)])<|
.m 10 2<|
.k 11 .i 237 [(.t 10)]<|
.k 12 y10 139 [(.t 6), (.t 9), (.t 11)]<|
.nil))
def T141_0 (E : List (Nat × Blk)) (D : Den) (W : DrawFn) (a : V) (b c : Int) (σ : H) : Ans :=
 callK (D 237 [(V.int .u64 c)] σ) fun u1 s2 =>
 rtInt .i64 u1 fun x3 =>
 callK (D 139 [a, (V.int .u64 (minF b c)), (V.int .i64 x3)] s2) fun u4 s5 =>
 rtTup u4 fun l6 =>
 rtNil l6 (
 some ((V.tup []), s5))
def S141_0 (a : V) (b c : Int) (σ : H) : St := ⟨[(0, a), (1, (V.int .u64 b)), (2, (V.int .u64 c))], [], [], σ⟩
theorem P141_0 (a : V) (b c : Int) (σ : H) :
 denC E D W N (C141_0 ) (S141_0 a b c σ) (Fin141 E) nX (Fin141 E) =
 T141_0 E D W  a b c σ := by kernel_rfl
def J141_0 (E : List (Nat × Blk)) (D : Den) (W : DrawFn) (N : Nat) := T141_0 E D W
theorem JE141_0 (a : V) (b c : Int) (σ : H) :
 denC E D W N C141_0 (S141_0 a b c σ) (Fin141 E) nX (Fin141 E) = J141_0 E D W N a b c σ := by
 refine (P141_0 E D W N   a b c σ).trans ?_
 kernel_rfl
def F141 (args : List V) (σ : H) : Ans :=
 rtCons args fun x1 l2 =>
 xcI .u64 l2 fun x5 l4 =>
 xcI .u64 l4 fun x8 l7 =>
 rtNil l7 (
 J141_0 E D W N x1 x5 x8 σ)
def A141 : XFn := ⟨13, [.any, (.int .u64), (.int .u64)], [], C141_0⟩
theorem FE141 (args : List V) (σ : H) : runX E D W N A141 args σ = F141 E D W N args σ := by
 unfold F141
 simp only [← JE141_0]
 kernel_rfl
def q147a : List (Nat × XTy) := [(3, .any), (6, .any), (7, .i), (8, .i)]
def Fin147 (E : List (Nat × Blk)) : St → Ans := fun s => resK E s [(.tmp 2)] fun l => some (oneV l, s.σ)
def b147a (c0 : XC) : Nat → St → Ans := blkK 0 (dX E D W N (.keep [(3, .any)] [] [] c0) (Fin147 E) nX (Fin147 E)) nX
def C147_0 (cc1 : XC) (cc2 : XC) : XC := (.z (.c 2 V.nils<|
.nil)
 (.z (.c 3 V.nils<|
.nil)
 (.seq (.z (.m 6 0<|
.u 7 6<|
.q 8 0<|
.nil)
 (.block 0 (.loop q147a [] [] cc2)))
 (.keep [(3, .any)] [] [] cc1))))
def T147_0 (E : List (Nat × Blk)) (D : Den) (W : DrawFn) (K2 : V → V → Int → Int → H → Ans) (a : V) (σ : H) : Ans :=
 slenK a fun n1 =>
 K2 V.nils a (Int.ofNat n1) (Int.ofNat 0) σ
def C147_1 : XC := (.z (.m 16 3<|
.m 2 16<|
.nil)
 .ret)
def T147_1 (E : List (Nat × Blk)) (D : Den) (W : DrawFn) (a : V) (σ : H) : Ans :=
 some (a, σ)
def C147_2 : XC := (.z (.b 9 .lss .none (.t 8) (.t 7)<|
.nil)
 (.seq y15
 (.seq (.block 1 (.z (.s 10 1 6 8<|
.l 11 .any 10<|
.m 5 11<|
.nil)
 (.ops (.m 12 3<|
.m 13 5<|
.O 14 .one (.append 5 1 1 (.t 12) (.t 13))<|
.m 3 14<|
.nil))))
 (.ops (.b 15 .add .none (.t 8) (.i 1)<|
.m 8 15<|
.nil)))))
def T147_2 (E : List (Nat × Blk)) (D : Den) (W : DrawFn) (K1 : V → H → Ans) (R2 : V → V → Int → Int → H → Ans) (a b : V) (c d : Int) (σ : H) : Ans :=
 condK (ltF d c) (
 iaddrSK 1 b d fun b1 o2 =>
 ldK E σ b1 o2 fun u3 =>
 appK E 1 1 a u3 σ fun u4 s5 =>
 rtOne u4 (
 R2 u4 b c (addF .i64 d (Int.ofNat 1)) s5)) (
 K1 a σ)
def S147_0 (a : V) (σ : H) : St := ⟨[(0, a)], [], [], σ⟩
def S147_1 (a : V) (σ : H) : St := ⟨[(3, a)], [], [], σ⟩
def S147_2 (a b : V) (c d : Int) (σ : H) : St := ⟨[(3, a), (6, b), (7, (V.int .i64 c)), (8, (V.int .i64 d))], [], [], σ⟩
theorem P147_0 (cc1 : XC) (cc2 : XC) (a : V) (σ : H) :
 denC E D W N (C147_0 cc1 cc2) (S147_0 a σ) (Fin147 E) nX (Fin147 E) =
 T147_0 E D W (fun b c d e σ => iterK (fun rec s' => denC E D W N cc2 s' (kX q147a [] [] rec) (b147a E D W N cc1) (Fin147 E)) N (S147_2 b c d e σ)) a σ := by kernel_rfl
theorem P147_1 (a : V) (σ : H) :
 denC E D W N (C147_1 ) (S147_1 a σ) (Fin147 E) nX (Fin147 E) =
 T147_1 E D W  a σ := by kernel_rfl
theorem P147_2 (cc1 : XC) (li2 : St → Ans) (a b : V) (c d : Int) (σ : H) :
 denC E D W N (C147_2 ) (S147_2 a b c d σ) (kX q147a [] [] li2) (b147a E D W N cc1) (Fin147 E) =
 T147_2 E D W (fun a σ => denC E D W N cc1 (S147_1 a σ) (Fin147 E) nX (Fin147 E)) (fun a b c d σ => li2 (S147_2 a b c d σ)) a b c d σ := by kernel_rfl
def J147_1 (E : List (Nat × Blk)) (D : Den) (W : DrawFn) (N : Nat) := T147_1 E D W
theorem JE147_1 (a : V) (σ : H) :
 denC E D W N C147_1 (S147_1 a σ) (Fin147 E) nX (Fin147 E) = J147_1 E D W N a σ := by
 refine (P147_1 E D W N   a σ).trans ?_
 kernel_rfl
def L147_2 (n : Nat) : V → V → Int → Int → H → Ans :=
 Nat.rec (fun _ _ _ _ _ => none) (fun _ ih => T147_2 E D W (J147_1 E D W N ) ih) n
theorem LE147_2 (n : Nat) : ∀ (a b : V) (c d : Int) (σ : H),
 iterK (fun rec s' => denC E D W N C147_2 s' (kX q147a [] [] rec) (b147a E D W N C147_1) (Fin147 E)) n (S147_2 a b c d σ) = L147_2 E D W N n a b c d σ := by
 induction n with
 | zero => intro a b c d σ; rfl
 | succ n ihn =>
  intro a b c d σ
  rw [iterK_succ]
  refine (P147_2 E D W N C147_1 (iterK (fun rec s' => denC E D W N C147_2 s' (kX q147a [] [] rec) (b147a E D W N C147_1) (Fin147 E)) n) a b c d σ).trans ?_
  simp only [ihn, JE147_1]
  kernel_rfl
def J147_0 := T147_0 E D W (L147_2 E D W N N)
theorem JE147_0 (a : V) (σ : H) :
 denC E D W N (C147_0 C147_1 C147_2) (S147_0 a σ) (Fin147 E) nX (Fin147 E) = J147_0 E D W N a σ := by
 refine (P147_0 E D W N C147_1 C147_2  a σ).trans ?_
 simp only [LE147_2]
 kernel_rfl
def F147 (args : List V) (σ : H) : Ans :=
 rtCons args fun x1 l2 =>
 rtNil l2 (
 J147_0 E D W N x1 σ)
def A147 : XFn := ⟨17, [.any], [(.tmp 2)], (C147_0 C147_1 C147_2)⟩
theorem FE147 (args : List V) (σ : H) : runX E D W N A147 args σ = F147 E D W N args σ := by
 unfold F147
 simp only [← JE147_0]
 kernel_rfl
def q148a : List (Nat × XTy) := [(0, .i), (3, .any), (4, .bool)]
def Fin148 (E : List (Nat × Blk)) : St → Ans := fun s => resK E s [(.tmp 2)] fun l => some (oneV l, s.σ)
def b148a (c0 : XC) : Nat → St → Ans := blkK 0 (dX E D W N (.keep [(3, .any)] [] [] c0) (Fin148 E) nX (Fin148 E)) nX
def C148_0 (cc1 : XC) (cc2 : XC) : XC := (.z (.c 2 V.nils<|
.nil)
 (.z (.m 6 0<|
.p 7 [6] (.max (.t 6) [(.i 0)])<|
.m 0 7<|
.nil)
 (.z (.c 3 V.nils<|
.nil)
 (.seq (.z (.c 4 y37<|
.nil)
 (.block 0 (.loop q148a [] [] cc2)))
 (.keep [(3, .any)] [] [] cc1)))))
def T148_0 (E : List (Nat × Blk)) (D : Den) (W : DrawFn) (K2 : Int → V → Bool → H → Ans) (a : Int) (σ : H) : Ans :=
 K2 (maxF a (Int.ofNat 0)) V.nils true σ
def C148_1 : XC := (.z (.m 21 3<|
.m 2 21<|
.nil)
 .ret)
def T148_1 (E : List (Nat × Blk)) (D : Den) (W : DrawFn) (a : V) (σ : H) : Ans :=
 some (a, σ)
def C148_2 : XC := (.seq (.z (.m 8 4<|
.nil)
 (.cond (.tmp 8) .skip
 y23))
 (.block 1 (.z (.q 5 0<|
.nil)
 (.z (.m 10 0<|
.k 11 (.tup [.i, .bool]) 244 [(.t 10)]<|
.m 9 11<|
.P 12 (.extract 0 (.t 9))<|
.P 13 (.extract 1 (.t 9))<|
.m 5 12<|
.m 4 13<|
.nil)
 (.ops (.m 14 3<|
.m 15 5<|
.p 16 [15] (.buildSlice 3 1 [y0] [(0, 1, (.t 15))])<|
.O 17 .one (.append 3 1 8 (.t 14) (.t 16))<|
.m 18 0<|
.m 19 5<|
.b 20 .sub .none (.t 18) (.t 19)<|
.m 3 17<|
.m 0 20<|
.nil))))))
def T148_2 (E : List (Nat × Blk)) (D : Den) (W : DrawFn) (K1 : V → H → Ans) (R2 : Int → V → Bool → H → Ans) (a : Int) (b : V) (c : Bool) (σ : H) : Ans :=
 condK c (
 callK (D 244 [(V.int .i64 a)] σ) fun u1 s2 =>
 rtTup u1 fun l3 =>
 xcI .i64 l3 fun x6 l5 =>
 xcB l5 fun x9 l8 =>
 rtNil l8 (
 let s10 := newB s2 (.cells [(V.int .i64 x6)]);
 appK E 1 8 b (V.sl (H.next s2) 0 1 (.ex 1)) s10 fun u11 s12 =>
 rtOne u11 (
 R2 (subF .i64 a x6) u11 x9 s12))) (
 K1 b σ)
def S148_0 (a : Int) (σ : H) : St := ⟨[(0, (V.int .i64 a))], [], [], σ⟩
def S148_1 (a : V) (σ : H) : St := ⟨[(3, a)], [], [], σ⟩
def S148_2 (a : Int) (b : V) (c : Bool) (σ : H) : St := ⟨[(0, (V.int .i64 a)), (3, b), (4, (V.bool c))], [], [], σ⟩
theorem P148_0 (cc1 : XC) (cc2 : XC) (a : Int) (σ : H) :
 denC E D W N (C148_0 cc1 cc2) (S148_0 a σ) (Fin148 E) nX (Fin148 E) =
 T148_0 E D W (fun a b c σ => iterK (fun rec s' => denC E D W N cc2 s' (kX q148a [] [] rec) (b148a E D W N cc1) (Fin148 E)) N (S148_2 a b c σ)) a σ := by kernel_rfl
theorem P148_1 (a : V) (σ : H) :
 denC E D W N (C148_1 ) (S148_1 a σ) (Fin148 E) nX (Fin148 E) =
 T148_1 E D W  a σ := by kernel_rfl
theorem P148_2 (cc1 : XC) (li2 : St → Ans) (a : Int) (b : V) (c : Bool) (σ : H) :
 denC E D W N (C148_2 ) (S148_2 a b c σ) (kX q148a [] [] li2) (b148a E D W N cc1) (Fin148 E) =
 T148_2 E D W (fun b σ => denC E D W N cc1 (S148_1 b σ) (Fin148 E) nX (Fin148 E)) (fun a b c σ => li2 (S148_2 a b c σ)) a b c σ := by kernel_rfl
def J148_1 (E : List (Nat × Blk)) (D : Den) (W : DrawFn) (N : Nat) := T148_1 E D W
theorem JE148_1 (a : V) (σ : H) :
 denC E D W N C148_1 (S148_1 a σ) (Fin148 E) nX (Fin148 E) = J148_1 E D W N a σ := by
 refine (P148_1 E D W N   a σ).trans ?_
 kernel_rfl
def L148_2 (n : Nat) : Int → V → Bool → H → Ans :=
 Nat.rec (fun _ _ _ _ => none) (fun _ ih => T148_2 E D W (J148_1 E D W N ) ih) n
theorem LE148_2 (n : Nat) : ∀ (a : Int) (b : V) (c : Bool) (σ : H),
 iterK (fun rec s' => denC E D W N C148_2 s' (kX q148a [] [] rec) (b148a E D W N C148_1) (Fin148 E)) n (S148_2 a b c σ) = L148_2 E D W N n a b c σ := by
 induction n with
 | zero => intro a b c σ; rfl
 | succ n ihn =>
  intro a b c σ
  rw [iterK_succ]
  refine (P148_2 E D W N C148_1 (iterK (fun rec s' => denC E D W N C148_2 s' (kX q148a [] [] rec) (b148a E D W N C148_1) (Fin148 E)) n) a b c σ).trans ?_
  simp only [ihn, JE148_1]
  kernel_rfl
def J148_0 := T148_0 E D W (L148_2 E D W N N)
theorem JE148_0 (a : Int) (σ : H) :
 denC E D W N (C148_0 C148_1 C148_2) (S148_0 a σ) (Fin148 E) nX (Fin148 E) = J148_0 E D W N a σ := by
 refine (P148_0 E D W N C148_1 C148_2  a σ).trans ?_
 simp only [LE148_2]
 kernel_rfl
def F148 (args : List V) (σ : H) : Ans :=
 xcI .i64 args fun x3 l2 =>
 rtNil l2 (
 J148_0 E D W N x3 σ)
def A148 : XFn := ⟨22, [.i], [(.tmp 2)], (C148_0 C148_1 C148_2)⟩
theorem FE148 (args : List V) (σ : H) : runX E D W N A148 args σ = F148 E D W N args σ := by
 unfold F148
 simp only [← JE148_0]
 kernel_rfl
def Fin149 (E : List (Nat × Blk)) : St → Ans := fun s => resK E s [] fun l => some (oneV l, s.σ)
def C149_0 : XC := (.block 0 (.z (.m 13 2<|
.m 12 13<|
.nil)
 (.cond (.tmp 12) (.z (.m 14 0<|
.k 15 y10 139 [(.t 14), (.con (V.int .u64 (Int.ofNat 3))), (.i 2)]<|
.nil)
 (.ops (.m 16 0<|
.m 17 1<|
.b 18 .quo .none (.t 17) (.i 16384)<|
.P 19 (.conv (.toInt .u64) (.t 18))<|
.k 20 y10 139 [(.t 16), (.t 19), (.i 6)]<|
.nil)))
 (.z (.m 22 1<|
.b 23 .lss .none (.t 22) (.i 128)<|
.m 21 23<|
.nil)
 (.cond (.tmp 21) (.ops (.m 24 0<|
.m 25 1<|
.P 26 (.conv (.toInt .u64) (.t 25))<|
.k 27 y10 139 [(.t 24), (.t 26), (.i 8)]<|
.nil))
 (.z (.m 6 0<|
.k 7 y10 139 [(.t 6), (.con (V.int .u64 (Int.ofNat 2))), (.i 2)]<|
.nil)
 (.ops (.m 8 0<|
.m 9 1<|
.P 10 (.conv (.toInt .u64) (.t 9))<|
.k 11 y10 139 [(.t 8), (.t 10), (.i 14)]<|
.nil))))))))
def T149_0 (E : List (Nat × Blk)) (D : Den) (W : DrawFn) (a : V) (b : Int) (c : Bool) (σ : H) : Ans :=
 condK c (
 callK (D 139 [a, (V.int .u64 (Int.ofNat 3)), (V.int .i64 (Int.ofNat 2))] σ) fun u1 s2 =>
 rtTup u1 fun l3 =>
 rtNil l3 (
 callK (D 139 [a, (V.int .u64 (wrapF .u64 (quoF .i64 b (Int.ofNat 16384)))), (V.int .i64 (Int.ofNat 6))] s2) fun u4 s5 =>
 rtTup u4 fun l6 =>
 rtNil l6 (
 some ((V.tup []), s5)))) (
 condK (ltF b (Int.ofNat 128)) (
 callK (D 139 [a, (V.int .u64 (wrapF .u64 b)), (V.int .i64 (Int.ofNat 8))] σ) fun u7 s8 =>
 rtTup u7 fun l9 =>
 rtNil l9 (
 some ((V.tup []), s8))) (
 callK (D 139 [a, (V.int .u64 (Int.ofNat 2)), (V.int .i64 (Int.ofNat 2))] σ) fun u10 s11 =>
 rtTup u10 fun l12 =>
 rtNil l12 (
 callK (D 139 [a, (V.int .u64 (wrapF .u64 b)), (V.int .i64 (Int.ofNat 14))] s11) fun u13 s14 =>
 rtTup u13 fun l15 =>
 rtNil l15 (
 some ((V.tup []), s14)))))
def S149_0 (a : V) (b : Int) (c : Bool) (σ : H) : St := ⟨[(0, a), (1, (V.int .i64 b)), (2, (V.bool c))], [], [], σ⟩
theorem P149_0 (a : V) (b : Int) (c : Bool) (σ : H) :
 denC E D W N (C149_0 ) (S149_0 a b c σ) (Fin149 E) nX (Fin149 E) =
 T149_0 E D W  a b c σ := by kernel_rfl
def J149_0 (E : List (Nat × Blk)) (D : Den) (W : DrawFn) (N : Nat) := T149_0 E D W
theorem JE149_0 (a : V) (b : Int) (c : Bool) (σ : H) :
 denC E D W N C149_0 (S149_0 a b c σ) (Fin149 E) nX (Fin149 E) = J149_0 E D W N a b c σ := by
 refine (P149_0 E D W N   a b c σ).trans ?_
 kernel_rfl
def F149 (args : List V) (σ : H) : Ans :=
 rtCons args fun x1 l2 =>
 xcI .i64 l2 fun x5 l4 =>
 xcB l4 fun x8 l7 =>
 rtNil l7 (
 J149_0 E D W N x1 x5 x8 σ)
def A149 : XFn := ⟨28, [.any, .i, .bool], [], C149_0⟩
theorem FE149 (args : List V) (σ : H) : runX E D W N A149 args σ = F149 E D W N args σ := by
 unfold F149
 simp only [← JE149_0]
 kernel_rfl
def q151a : List (Nat × XTy) := [(0, .any), (8, .any), (9, .i), (10, .i), (14, .any), (15, .i), (16, .i)]
def q151b : List (Nat × XTy) := [(0, .any), (8, .any), (9, .i), (10, .i)]
def Fin151 (E : List (Nat × Blk)) : St → Ans := fun s => resK E s [] fun l => some (oneV l, s.σ)
def b151a (c0 : XC) (l0 : St → Ans) : Nat → St → Ans := blkK 2 (dX E D W N (.keep q151b [] [] c0) (kX q151b [] [] l0) (blkK 0 (Fin151 E) nX) (Fin151 E)) (blkK 1 (dX E D W N (.keep q151b [] [] c0) (kX q151b [] [] l0) (blkK 0 (Fin151 E) nX) (Fin151 E)) (blkK 0 (Fin151 E) nX))
def C151_0 (cc1 : XC) : XC := (.z (.m 8 1<|
.u 9 8<|
.q 10 0<|
.nil)
 (.block 0 (.loop q151b [] [] cc1)))
def T151_0 (E : List (Nat × Blk)) (D : Den) (W : DrawFn) (K1 : V → V → Int → Int → H → Ans) (a b : V) (σ : H) : Ans :=
 slenK b fun n1 =>
 K1 a b (Int.ofNat n1) (Int.ofNat 0) σ
def C151_1 (cc2 : XC) (cc3 : XC) : XC := (.z (.b 11 .lss .none (.t 10) (.t 9)<|
.nil)
 (.seq (.cond (.tmp 11) .skip
 y23)
 (.seq (.block 1 (.z (.s 12 1 8 10<|
.l 13 .any 12<|
.m 5 13<|
.nil)
 (.z (.m 14 5<|
.u 15 14<|
.q 16 0<|
.nil)
 (.block 2 (.loop q151a [] [] cc3)))))
 (.keep q151b [] [] cc2))))
def T151_1 (E : List (Nat × Blk)) (D : Den) (W : DrawFn) (K3 : V → V → Int → Int → V → Int → Int → H → Ans) (a b : V) (c d : Int) (σ : H) : Ans :=
 condK (ltF d c) (
 iaddrSK 1 b d fun b1 o2 =>
 ldK E σ b1 o2 fun u3 =>
 slenK u3 fun n4 =>
 K3 a b c d u3 (Int.ofNat n4) (Int.ofNat 0) σ) (
 some ((V.tup []), σ))
def C151_2 : XC := (.ops (.b 25 .add .none (.t 10) (.i 1)<|
.m 10 25<|
.nil))
def T151_2 (E : List (Nat × Blk)) (D : Den) (W : DrawFn) (R1 : V → V → Int → Int → H → Ans) (a b : V) (c d : Int) (σ : H) : Ans :=
 R1 a b c (addF .i64 d (Int.ofNat 1)) σ
def C151_3 : XC := (.z (.b 17 .lss .none (.t 16) (.t 15)<|
.nil)
 (.seq (.cond (.tmp 17) .skip
 (.exit 2))
 (.seq (.block 3 (.z (.s 18 1 14 16<|
.l 19 (.int .u8) 18<|
.m 7 19<|
.nil)
 (.ops (.m 20 0<|
.m 21 7<|
.P 22 (.conv (.toInt .u32) (.t 21))<|
.k 23 y10 234 [(.t 20), (.t 22), (.i 8)]<|
.nil))))
 (.ops (.b 24 .add .none (.t 16) (.i 1)<|
.m 16 24<|
.nil)))))
def T151_3 (E : List (Nat × Blk)) (D : Den) (W : DrawFn) (K2 : V → V → Int → Int → H → Ans) (R3 : V → V → Int → Int → V → Int → Int → H → Ans) (a b : V) (c d : Int) (e : V) (f g : Int) (σ : H) : Ans :=
 condK (ltF g f) (
 iaddrSK 1 e g fun b1 o2 =>
 ldK E σ b1 o2 fun u3 =>
 rtInt .u8 u3 fun x4 =>
 callK (D 234 [a, (V.int .u32 (wrapF .u32 x4)), (V.int .i64 (Int.ofNat 8))] σ) fun u5 s6 =>
 rtTup u5 fun l7 =>
 rtNil l7 (
 R3 a b c d e f (addF .i64 g (Int.ofNat 1)) s6)) (
 K2 a b c d σ)
def S151_0 (a b : V) (σ : H) : St := ⟨[(0, a), (1, b)], [], [], σ⟩
def S151_1 (a b : V) (c d : Int) (σ : H) : St := ⟨[(0, a), (8, b), (9, (V.int .i64 c)), (10, (V.int .i64 d))], [], [], σ⟩
def S151_2 (a b : V) (c d : Int) (σ : H) : St := ⟨[(0, a), (8, b), (9, (V.int .i64 c)), (10, (V.int .i64 d))], [], [], σ⟩
def S151_3 (a b : V) (c d : Int) (e : V) (f g : Int) (σ : H) : St := ⟨[(0, a), (8, b), (9, (V.int .i64 c)), (10, (V.int .i64 d)), (14, e), (15, (V.int .i64 f)), (16, (V.int .i64 g))], [], [], σ⟩
theorem P151_0 (cc1 : XC) (a b : V) (σ : H) :
 denC E D W N (C151_0 cc1) (S151_0 a b σ) (Fin151 E) nX (Fin151 E) =
 T151_0 E D W (fun a c d e σ => iterK (fun rec s' => denC E D W N cc1 s' (kX q151b [] [] rec) (blkK 0 (Fin151 E) nX) (Fin151 E)) N (S151_1 a c d e σ)) a b σ := by kernel_rfl
theorem P151_1 (cc2 : XC) (cc3 : XC) (li1 : St → Ans) (a b : V) (c d : Int) (σ : H) :
 denC E D W N (C151_1 cc2 cc3) (S151_1 a b c d σ) (kX q151b [] [] li1) (blkK 0 (Fin151 E) nX) (Fin151 E) =
 T151_1 E D W (fun a b c d e f g σ => iterK (fun rec s' => denC E D W N cc3 s' (kX q151a [] [] rec) (b151a E D W N cc2 li1) (Fin151 E)) N (S151_3 a b c d e f g σ)) a b c d σ := by kernel_rfl
theorem P151_2 (li1 : St → Ans) (a b : V) (c d : Int) (σ : H) :
 denC E D W N (C151_2 ) (S151_2 a b c d σ) (kX q151b [] [] li1) (blkK 0 (Fin151 E) nX) (Fin151 E) =
 T151_2 E D W (fun a b c d σ => li1 (S151_1 a b c d σ)) a b c d σ := by kernel_rfl
theorem P151_3 (cc2 : XC) (li1 : St → Ans) (li3 : St → Ans) (a b : V) (c d : Int) (e : V) (f g : Int) (σ : H) :
 denC E D W N (C151_3 ) (S151_3 a b c d e f g σ) (kX q151a [] [] li3) (b151a E D W N cc2 li1) (Fin151 E) =
 T151_3 E D W (fun a b c d σ => denC E D W N cc2 (S151_2 a b c d σ) (kX q151b [] [] li1) (blkK 0 (Fin151 E) nX) (Fin151 E)) (fun a b c d e f g σ => li3 (S151_3 a b c d e f g σ)) a b c d e f g σ := by kernel_rfl
def J151_2 (E : List (Nat × Blk)) (D : Den) (W : DrawFn) (N : Nat) (R1 : V → V → Int → Int → H → Ans) := T151_2 E D W R1
theorem JE151_2 (li1 : St → Ans) (a b : V) (c d : Int) (σ : H) :
 denC E D W N C151_2 (S151_2 a b c d σ) (kX q151b [] [] li1) (blkK 0 (Fin151 E) nX) (Fin151 E) = J151_2 E D W N (fun a b c d σ => li1 (S151_1 a b c d σ)) a b c d σ := by
 refine (P151_2 E D W N  li1 a b c d σ).trans ?_
 kernel_rfl
def L151_3 (R1 : V → V → Int → Int → H → Ans) (n : Nat) : V → V → Int → Int → V → Int → Int → H → Ans :=
 Nat.rec (fun _ _ _ _ _ _ _ _ => none) (fun _ ih => T151_3 E D W (J151_2 E D W N R1) ih) n
theorem LE151_3 (li1 : St → Ans) (n : Nat) : ∀ (a b : V) (c d : Int) (e : V) (f g : Int) (σ : H),
 iterK (fun rec s' => denC E D W N C151_3 s' (kX q151a [] [] rec) (b151a E D W N C151_2 li1) (Fin151 E)) n (S151_3 a b c d e f g σ) = L151_3 E D W N (fun a b c d σ => li1 (S151_1 a b c d σ)) n a b c d e f g σ := by
 induction n with
 | zero => intro a b c d e f g σ; rfl
 | succ n ihn =>
  intro a b c d e f g σ
  rw [iterK_succ]
  refine (P151_3 E D W N C151_2 li1 (iterK (fun rec s' => denC E D W N C151_3 s' (kX q151a [] [] rec) (b151a E D W N C151_2 li1) (Fin151 E)) n) a b c d e f g σ).trans ?_
  simp only [ihn, JE151_2]
  kernel_rfl
def L151_1 (n : Nat) : V → V → Int → Int → H → Ans :=
 Nat.rec (fun _ _ _ _ _ => none) (fun _ ih => T151_1 E D W (L151_3 E D W N ih N)) n
theorem LE151_1 (n : Nat) : ∀ (a b : V) (c d : Int) (σ : H),
 iterK (fun rec s' => denC E D W N (C151_1 C151_2 C151_3) s' (kX q151b [] [] rec) (blkK 0 (Fin151 E) nX) (Fin151 E)) n (S151_1 a b c d σ) = L151_1 E D W N n a b c d σ := by
 induction n with
 | zero => intro a b c d σ; rfl
 | succ n ihn =>
  intro a b c d σ
  rw [iterK_succ]
  refine (P151_1 E D W N C151_2 C151_3 (iterK (fun rec s' => denC E D W N (C151_1 C151_2 C151_3) s' (kX q151b [] [] rec) (blkK 0 (Fin151 E) nX) (Fin151 E)) n) a b c d σ).trans ?_
  simp only [ihn, LE151_3]
  kernel_rfl
def J151_0 := T151_0 E D W (L151_1 E D W N N)
theorem JE151_0 (a b : V) (σ : H) :
 denC E D W N (C151_0 (C151_1 C151_2 C151_3)) (S151_0 a b σ) (Fin151 E) nX (Fin151 E) = J151_0 E D W N a b σ := by
 refine (P151_0 E D W N (C151_1 C151_2 C151_3)  a b σ).trans ?_
 simp only [LE151_1]
 kernel_rfl
def F151 (args : List V) (σ : H) : Ans :=
 rtCons args fun x1 l2 =>
 rtCons l2 fun x3 l4 =>
 rtNil l4 (
 J151_0 E D W N x1 x3 σ)
def A151 : XFn := ⟨26, y32, [], (C151_0 (C151_1 C151_2 C151_3))⟩
theorem FE151 (args : List V) (σ : H) : runX E D W N A151 args σ = F151 E D W N args σ := by
 unfold F151
 simp only [← JE151_0]
 kernel_rfl
def q152a : List (Nat × List XTy) := [(5, [.i, .any, .bool, .bool, .bool, .bool, .i, .i, .any, .any, .i, .bool, .i])]
def G152_0 : List AOper := [⟨(some 16), .mov (.tmp 0), none⟩, ⟨(some 17), .nilck (.tmp 16), none⟩, ⟨(some 18), .faddr 0 (.tmp 17), none⟩, ⟨(some 19), .load none (.tmp 18), none⟩, ⟨(some 20), .mov (.tmp 4), none⟩, ⟨(some 21), .nilck (.tmp 20), none⟩, ⟨(some 22), .faddr 0 (.tmp 21), none⟩, ⟨(some 23), .load none (.tmp 22), none⟩, ⟨(some 24), .call 40 [(.tmp 23)], none⟩, ⟨(some 25), .buildSlice 34 1 [V.nils] [(0, 1, (.tmp 24))], none⟩, ⟨(some 26), .call 74 [(.tmp 19), (.tmp 25)], none⟩]
def H152_0 : List DP := [⟨0, [0]⟩, ⟨1, [16]⟩, ⟨3, [17]⟩, ⟨7, [18]⟩, ⟨0, [4]⟩, ⟨16, [20]⟩, ⟨48, [21]⟩, ⟨112, [22]⟩, ⟨240, [23]⟩, ⟨496, [24]⟩, ⟨1023, [19, 25]⟩]
def Fin152 (E : List (Nat × Blk)) : St → Ans := fun s => resK E s [] fun l => some (oneV l, s.σ)
def C152_0 : XC := (.z (.op (some 5) (.agg [.any, .i]) [] (.build [V.nils, y0] [])<|
.P 6 (.box 89 (.t 5))<|
.m 7 0<|
.n 8 7<|
.f 9 1 8<|
.O 10 y7 (.load (some 4) (.t 9))<|
.op (some 11) (.agg [.any, .str, .any, .any, .any]) [6, 10] (.build [V.nilp, y6, V.nils, V.nils, V.nils] [(0, 1, (.t 6)), (1, 4, (.t 10))])<|
.P 12 (.box 91 (.t 11))<|
.m 4 12<|
.nil)
 (.z (.m 13 1<|
.m 14 4<|
.O 15 y10 (.callv (.t 13) [(.t 14)])<|
.nil)
 (.keep [(0, .ptr), (4, .ptr)] [] [] (.gdraw G152_0 H152_0 []))))
def T152_0 (a b : Nat) (c : V) (σ : H) : Ans :=
 nbK [V.nils, (V.int .i64 (Int.ofNat 0))] σ fun s1 =>
 ldnK E s1 a (Nat.add b 1) 4 fun l2 =>
 xcS l2 fun x5 l4 =>
 rtCons l4 fun x6 l7 =>
 rtCons l7 fun x8 l9 =>
 rtCons l9 fun x10 l11 =>
 rtNil l11 (
 nbK [(V.ptr (H.next σ) 0), (V.str x5), x6, x8, x10] s1 fun s12 =>
 callvK D c [(V.ptr (H.next s1) 0)] s12 fun u13 s14 =>
 rtTup u13 fun l15 =>
 rtNil l15 (
 gdrawK (W G152_0 H152_0 [(0, (V.ptr a b)), (4, (V.ptr (H.next s1) 0))] s14) fun e16 s17 =>
 some ((V.tup []), s17)))
def S152_0 (a b : Nat) (c : V) (σ : H) : St := ⟨[(0, (V.ptr a b)), (1, c)], [], [], σ⟩
theorem P152_0 (a b : Nat) (c : V) (σ : H) :
 denC E D W N (C152_0 ) (S152_0 a b c σ) (Fin152 E) nX (Fin152 E) =
 T152_0 E D W  a b c σ := by kernel_rfl
def J152_0 (E : List (Nat × Blk)) (D : Den) (W : DrawFn) (N : Nat) := T152_0 E D W
theorem JE152_0 (a b : Nat) (c : V) (σ : H) :
 denC E D W N C152_0 (S152_0 a b c σ) (Fin152 E) nX (Fin152 E) = J152_0 E D W N a b c σ := by
 refine (P152_0 E D W N   a b c σ).trans ?_
 kernel_rfl
def F152 (args : List V) (σ : H) : Ans :=
 rtCons args fun x1 l2 =>
 rtPtr x1 fun b3 o4 =>
 rtCons l2 fun x5 l6 =>
 rtNil l6 (
 J152_0 E D W N b3 o4 x5 σ)
def A152 : XFn := ⟨27, [.ptr, .any], [], C152_0⟩
theorem FE152 (args : List V) (σ : H) : runX E D W N A152 args σ = F152 E D W N args σ := by
 unfold F152
 simp only [← JE152_0]
 kernel_rfl
def C154_0 (cc1 : XC) (cc2 : XC) : XC := (.z (.P 2 (.box 30 (.t 0))<|
.c 4 V.nils<|
.nil)
 (.z (.O 8 y7 (.load (some 4) (.t 2))<|
.m 9 1<|
.k 10 y1 239 [(.t 8), (.t 9)]<|
.p 5 [] y19<|
.op none y1 [5, 10] (.store 13 (.t 5) (.t 10))<|
.nil)
 (.z (.f 11 9 5<|
.l 12 .any 11<|
.u 13 12<|
.m 6 13<|
.nil)
 (.seq (.z (.f 14 0 5<|
.l 15 .i 14<|
.nil)
 (.block 0 (.z (.b 17 .eql .none (.t 15) (.i 7)<|
.m 16 17<|
.nil)
 (.cond (.tmp 16) (.z (.m 18 6<|
.k 19 .one 243 [(.i 0), (.t 18)]<|
.m 4 19<|
.nil)
 .ret)
 (.seq (.z (.b 21 .eql .none (.t 15) (.i 8)<|
.m 20 21<|
.nil)
 (.cond (.tmp 20) .skip
 (.ops (.b 22 .eql .none (.t 15) (.i 9)<|
.m 20 22<|
.nil))))
 (.keep [(2, .ptr), (5, .ptr), (6, .i), (20, .bool)] [] [] cc2))))))
 (.keep [] [] [] cc1)))))
def C154_1 : XC := (.z (.c 4 V.nils<|
.nil)
 .ret)
def C154_2 : XC := (.cond (.tmp 20) (.z (.f 23 10 5<|
.l 24 .i 23<|
.p 25 [24] (.max (.t 24) [(.i 0)])<|
.m 26 6<|
.p 27 [25, 26] (.min (.t 25) [(.t 26)])<|
.m 7 27<|
.nil)
 (.z (.p 28 [2, 5] (.mkfn 245 [] [(.t 2), (.t 5)])<|
.m 29 7<|
.k 30 .one 243 [(.i 0), (.t 29)]<|
.m 31 7<|
.m 32 6<|
.k 33 .one 243 [(.t 31), (.t 32)]<|
.k 34 .one 240 [(.t 28), (.t 30), (.t 33)]<|
.m 4 34<|
.nil)
 .ret))
 .skip)
def A154 : XFn := ⟨35, [y7, .i], [(.tmp 4)], (C154_0 C154_1 C154_2)⟩
def C155_0 (cc1 : XC) (cc2 : XC) : XC := (.z (.P 2 (.box 30 (.t 0))<|
.c 4 V.nils<|
.nil)
 (.z (.O 11 y7 (.load (some 4) (.t 2))<|
.m 12 1<|
.k 13 y1 239 [(.t 11), (.t 12)]<|
.pal 5 [] 145 [y0, V.nils, y3, y3, y3, y3, y0, y0, V.nils, V.nils, y0, y3, y0]<|
.op none y1 [5, 13] (.store 13 (.t 5) (.t 13))<|
.nil)
 (.seq (.z (.f 14 0 5<|
.l 15 .i 14<|
.b 16 .neq .none (.t 15) (.i 7)<|
.m 17 16<|
.gA 17 true (.p 18 [5, 17] (.faddr 0 (.t 5))<|
.op (some 19) .i [18, 17] (.load none (.t 18))<|
.p 20 [19, 17] (.bin .neq .none (.t 19) (.i 8))<|
.nil) 21 17 20<|
.m 22 21<|
.gA 22 true (.p 23 [5, 22] (.faddr 0 (.t 5))<|
.op (some 24) .i [23, 22] (.load none (.t 23))<|
.p 25 [24, 22] (.bin .neq .none (.t 24) (.i 9))<|
.nil) 26 22 25<|
.nil)
 (.cond (.tmp 26) (.z (.c 4 V.nils<|
.nil)
 .ret)
 .skip))
 (.z (.c 6 V.nils<|
.nil)
 (.seq (.z (.f 27 10 5<|
.l 28 .i 27<|
.p 29 [28] (.max (.t 28) [(.i 0)])<|
.f 30 9 5<|
.l 31 .any 30<|
.u 32 31<|
.k 33 .one 243 [(.t 29), (.t 32)]<|
.u 34 33<|
.q 35 0<|
.nil)
 (.block 0 (.loop [(6, .any), (33, .any), (34, .i), (35, .i)] [5] q152a cc2)))
 (.keep [(6, .any)] [] [] cc1))))))
def C155_1 : XC := (.z (.m 86 6<|
.m 4 86<|
.nil)
 .ret)
def C155_2 (cc3 : XC) : XC := (.z (.b 36 .lss .none (.t 35) (.t 34)<|
.nil)
 (.seq (.cond (.tmp 36) .skip
 y23)
 (.seq (.block 1 (.z (.s 37 1 33 35<|
.l 38 .i 37<|
.m 8 38<|
.nil)
 (.z (.m 39 6<|
.u 40 39<|
.b 41 .sub .none (.t 40) (.i 1)<|
.m 9 41<|
.nil)
 (.seq (.z (.f 42 9 5<|
.l 43 .any 42<|
.m 44 8<|
.s 45 11 43 44<|
.f 46 10 45<|
.l 47 .i 46<|
.m 10 47<|
.nil)
 (.z (.f 48 0 5<|
.l 49 .i 48<|
.b 50 .neq .none (.t 49) (.i 9)<|
.m 51 50<|
.gA 51 true (.p 52 [10, 51] (.mov (.t 10))<|
.p 53 [52, 51] (.bin .gtr .none (.t 52) (.i 0))<|
.nil) 54 51 53<|
.m 55 54<|
.gA 55 true (.p 56 [9, 55] (.mov (.t 9))<|
.p 57 [56, 55] (.bin .geq .none (.t 56) (.i 0))<|
.nil) 58 55 57<|
.m 59 58<|
.gA 59 true (.p 60 [5, 59] (.faddr 9 (.t 5))<|
.p 61 [60, 59] (.load none (.t 60))<|
.p 62 [8, 59] y30<|
.p 63 [62, 59] (.bin .sub .none (.t 62) (.i 1))<|
.p 64 [61, 63, 59] (.iaddrS 11 (.t 61) (.t 63))<|
.p 65 [64, 59] (.faddr 10 (.t 64))<|
.op (some 66) .i [65, 59] (.load none (.t 65))<|
.p 67 [10, 59] (.mov (.t 10))<|
.p 68 [66, 67, 59] (.bin .eql .none (.t 66) (.t 67))<|
.nil) 69 59 68<|
.nil)
 (.cond (.tmp 69) (.z (.m 70 6<|
.m 71 9<|
.m 72 6<|
.m 73 9<|
.s 74 1 72 73<|
.l 75 .any 74<|
.m 76 8<|
.p 77 [76] (.buildSlice 3 1 [y0] [(0, 1, (.t 76))])<|
.O 78 .one (.append 3 1 8 (.t 75) (.t 77))<|
.s 79 1 70 71<|
.w 1 79 78<|
.nil)
 (.exit 1))
 .skip)))
 (.ops (.m 80 6<|
.m 81 8<|
.p 82 [81] (.buildSlice 3 1 [y0] [(0, 1, (.t 81))])<|
.p 83 [82] (.buildSlice 22 1 [V.nils] [(0, 1, (.t 82))])<|
.O 84 .one (.append 22 1 24 (.t 80) (.t 83))<|
.m 6 84<|
.nil))))))
 (.keep [(6, .any), (33, .any), (34, .i), (35, .i)] [5] q152a cc3))))
def C155_3 : XC := (.ops (.b 85 .add .none (.t 35) (.i 1)<|
.m 35 85<|
.nil))
def A155 : XFn := ⟨87, [y7, .i], [(.tmp 4)], (C155_0 C155_1 (C155_2 C155_3))⟩
def Fin156 (E : List (Nat × Blk)) : St → Ans := fun s => resK E s [(.tmp 4)] fun l => some (oneV l, s.σ)
def C156_0 : XC := (.z (.c 4 y3<|
.nil)
 (.z (.m 5 0<|
.m 6 1<|
.k 7 .i 248 [(.t 5), (.t 6)]<|
.b 8 .geq .none (.t 7) (.i 0)<|
.m 4 8<|
.nil)
 .ret))
def T156_0 (E : List (Nat × Blk)) (D : Den) (W : DrawFn) (a b : V) (σ : H) : Ans :=
 callK (D 248 [a, b] σ) fun u1 s2 =>
 rtInt .i64 u1 fun x3 =>
 some ((V.bool (leF (Int.ofNat 0) x3)), s2)
def S156_0 (a b : V) (σ : H) : St := ⟨[(0, a), (1, b)], [], [], σ⟩
theorem P156_0 (a b : V) (σ : H) :
 denC E D W N (C156_0 ) (S156_0 a b σ) (Fin156 E) nX (Fin156 E) =
 T156_0 E D W  a b σ := by kernel_rfl
def J156_0 (E : List (Nat × Blk)) (D : Den) (W : DrawFn) (N : Nat) := T156_0 E D W
theorem JE156_0 (a b : V) (σ : H) :
 denC E D W N C156_0 (S156_0 a b σ) (Fin156 E) nX (Fin156 E) = J156_0 E D W N a b σ := by
 refine (P156_0 E D W N   a b σ).trans ?_
 kernel_rfl
def F156 (args : List V) (σ : H) : Ans :=
 rtCons args fun x1 l2 =>
 rtCons l2 fun x3 l4 =>
 rtNil l4 (
 J156_0 E D W N x1 x3 σ)
def A156 : XFn := ⟨9, y32, [(.tmp 4)], C156_0⟩
theorem FE156 (args : List V) (σ : H) : runX E D W N A156 args σ = F156 E D W N args σ := by
 unfold F156
 simp only [← JE156_0]
 kernel_rfl
def Fin157 (E : List (Nat × Blk)) : St → Ans := fun s => resK E s [(.tmp 3)] fun l => some (oneV l, s.σ)
def C157_0 : XC := (.z (.c 3 y3<|
.nil)
 (.z (.f 4 3 1<|
.l 5 .any 4<|
.m 6 0<|
.s 7 6 5 6<|
.O 8 y2 (.load (some 6) (.t 7))<|
.k 9 .bool 158 [(.t 8)]<|
.P 10 (.un .not (.t 9))<|
.m 3 10<|
.nil)
 .ret))
def T157_0 (E : List (Nat × Blk)) (D : Den) (W : DrawFn) (a : Int) (b : V) (σ : H) : Ans :=
 rtPtr b fun b1 o2 =>
 ldK E σ b1 (Nat.add o2 3) fun u3 =>
 iaddrSK 6 u3 a fun b4 o5 =>
 ldnK E σ b4 o5 6 fun l6 =>
 xcI .i64 l6 fun x9 l8 =>
 xcI .i64 l8 fun x12 l11 =>
 rtCons l11 fun x13 l14 =>
 rtCons l14 fun x15 l16 =>
 xcI .i64 l16 fun x19 l18 =>
 rtCons l18 fun x20 l21 =>
 rtNil l21 (
 callK (D 158 [(V.agg [(V.int .i64 x9), (V.int .i64 x12), x13, x15, (V.int .i64 x19), x20])] σ) fun u22 s23 =>
 rtBool u22 fun x24 =>
 some ((V.bool (not x24)), s23))
def S157_0 (a : Int) (b : V) (σ : H) : St := ⟨[(0, (V.int .i64 a)), (1, b)], [], [], σ⟩
theorem P157_0 (a : Int) (b : V) (σ : H) :
 denC E D W N (C157_0 ) (S157_0 a b σ) (Fin157 E) nX (Fin157 E) =
 T157_0 E D W  a b σ := by kernel_rfl
def J157_0 (E : List (Nat × Blk)) (D : Den) (W : DrawFn) (N : Nat) := T157_0 E D W
theorem JE157_0 (a : Int) (b : V) (σ : H) :
 denC E D W N C157_0 (S157_0 a b σ) (Fin157 E) nX (Fin157 E) = J157_0 E D W N a b σ := by
 refine (P157_0 E D W N   a b σ).trans ?_
 kernel_rfl
def F157 (args : List V) (σ : H) : Ans :=
 xcI .i64 args fun x3 l2 =>
 rtCons l2 fun x4 l5 =>
 rtNil l5 (
 J157_0 E D W N x3 x4 σ)
def A157 : XFn := ⟨11, [.i, .any], [(.tmp 3)], C157_0⟩
theorem FE157 (args : List V) (σ : H) : runX E D W N A157 args σ = F157 E D W N args σ := by
 unfold F157
 simp only [← JE157_0]
 kernel_rfl
def Fin158 (E : List (Nat × Blk)) : St → Ans := fun s => resK E s [(.tmp 2)] fun l => some (oneV l, s.σ)
def C158_0 : XC := (.z (.P 1 (.box 38 (.t 0))<|
.c 2 y3<|
.nil)
 (.z (.f 3 0 1<|
.l 4 .i 3<|
.b 5 .eql .none (.t 4) (.i 0)<|
.m 6 5<|
.gA 6 true (.op (some 7) y2 [1, 6] (.load (some 6) (.t 1))<|
.op (some 8) .bool [7, 6] (.call 131 [(.t 7), (.i 0)])<|
.nil) 9 6 8<|
.m 2 9<|
.nil)
 .ret))
def T158_0 (E : List (Nat × Blk)) (D : Den) (W : DrawFn) (a b : Int) (c d : V) (e : Int) (f : V) (σ : H) : Ans :=
 nbK [(V.int .i64 a), (V.int .i64 b), c, d, (V.int .i64 e), f] σ fun s1 =>
 ldK E s1 (H.next σ) 0 fun u2 =>
 rtInt .i64 u2 fun x3 =>
 joinB (fun c4 s5 =>
 some ((V.bool c4), s5)) fun k6 =>
 condK (eqF x3 (Int.ofNat 0)) (
 ldnK E s1 (H.next σ) 0 6 fun l7 =>
 xcI .i64 l7 fun x10 l9 =>
 xcI .i64 l9 fun x13 l12 =>
 rtCons l12 fun x14 l15 =>
 rtCons l15 fun x16 l17 =>
 xcI .i64 l17 fun x20 l19 =>
 rtCons l19 fun x21 l22 =>
 rtNil l22 (
 callK (D 131 [(V.agg [(V.int .i64 x10), (V.int .i64 x13), x14, x16, (V.int .i64 x20), x21]), (V.int .i64 (Int.ofNat 0))] s1) fun u23 s24 =>
 rtBool u23 fun x25 =>
 k6 x25 s24)) (
 k6 false s1)
def S158_0 (a b : Int) (c d : V) (e : Int) (f : V) (σ : H) : St := ⟨[(0, (V.agg [(V.int .i64 a), (V.int .i64 b), c, d, (V.int .i64 e), f]))], [], [], σ⟩
theorem P158_0 (a b : Int) (c d : V) (e : Int) (f : V) (σ : H) :
 denC E D W N (C158_0 ) (S158_0 a b c d e f σ) (Fin158 E) nX (Fin158 E) =
 T158_0 E D W  a b c d e f σ := by kernel_rfl
def J158_0 (E : List (Nat × Blk)) (D : Den) (W : DrawFn) (N : Nat) := T158_0 E D W
theorem JE158_0 (a b : Int) (c d : V) (e : Int) (f : V) (σ : H) :
 denC E D W N C158_0 (S158_0 a b c d e f σ) (Fin158 E) nX (Fin158 E) = J158_0 E D W N a b c d e f σ := by
 refine (P158_0 E D W N   a b c d e f σ).trans ?_
 kernel_rfl
def F158 (args : List V) (σ : H) : Ans :=
 rtCons args fun x1 l2 =>
 rtAgg x1 fun l3 =>
 xcI .i64 l3 fun x6 l5 =>
 xcI .i64 l5 fun x9 l8 =>
 rtCons l8 fun x10 l11 =>
 rtCons l11 fun x12 l13 =>
 xcI .i64 l13 fun x16 l15 =>
 rtCons l15 fun x17 l18 =>
 rtNil l18 (
 rtNil l2 (
 J158_0 E D W N x6 x9 x10 x12 x16 x17 σ))
def A158 : XFn := ⟨10, [y2], [(.tmp 2)], C158_0⟩
theorem FE158 (args : List V) (σ : H) : runX E D W N A158 args σ = F158 E D W N args σ := by
 unfold F158
 simp only [← JE158_0]
 kernel_rfl
def Fin159 (E : List (Nat × Blk)) : St → Ans := fun s => resK E s [(.tmp 4)] fun l => some (oneV l, s.σ)
def C159_0 : XC := (.z (.c 4 y3<|
.nil)
 (.z (.m 5 0<|
.m 6 1<|
.k 7 .i 249 [(.t 5), (.t 6)]<|
.b 8 .geq .none (.t 7) (.i 0)<|
.m 4 8<|
.nil)
 .ret))
def T159_0 (E : List (Nat × Blk)) (D : Den) (W : DrawFn) (a : V) (b : Bool) (σ : H) : Ans :=
 callK (D 249 [a, (V.bool b)] σ) fun u1 s2 =>
 rtInt .i64 u1 fun x3 =>
 some ((V.bool (leF (Int.ofNat 0) x3)), s2)
def S159_0 (a : V) (b : Bool) (σ : H) : St := ⟨[(0, a), (1, (V.bool b))], [], [], σ⟩
theorem P159_0 (a : V) (b : Bool) (σ : H) :
 denC E D W N (C159_0 ) (S159_0 a b σ) (Fin159 E) nX (Fin159 E) =
 T159_0 E D W  a b σ := by kernel_rfl
def J159_0 (E : List (Nat × Blk)) (D : Den) (W : DrawFn) (N : Nat) := T159_0 E D W
theorem JE159_0 (a : V) (b : Bool) (σ : H) :
 denC E D W N C159_0 (S159_0 a b σ) (Fin159 E) nX (Fin159 E) = J159_0 E D W N a b σ := by
 refine (P159_0 E D W N   a b σ).trans ?_
 kernel_rfl
def F159 (args : List V) (σ : H) : Ans :=
 rtCons args fun x1 l2 =>
 xcB l2 fun x5 l4 =>
 rtNil l4 (
 J159_0 E D W N x1 x5 σ)
def A159 : XFn := ⟨9, [.any, .bool], [(.tmp 4)], C159_0⟩
theorem FE159 (args : List V) (σ : H) : runX E D W N A159 args σ = F159 E D W N args σ := by
 unfold F159
 simp only [← JE159_0]
 kernel_rfl
def q160a : List (Nat × XTy) := [(0, .any), (3, .any), (5, .ptr), (6, .ptr), (12, .any), (13, .i), (14, .i)]
def q160b : List (Nat × XTy) := [(0, .any), (5, .ptr), (6, .ptr), (42, .any), (43, .i), (44, .i)]
def q160c : List (Nat × XTy) := [(0, .any), (3, .any), (5, .ptr), (6, .ptr)]
def Fin160 (E : List (Nat × Blk)) : St → Ans := fun s => resK E s [] fun l => some (oneV l, s.σ)
def b160a (c0 : XC) : Nat → St → Ans := blkK 0 (dX E D W N (.keep q160c [] [] c0) (Fin160 E) nX (Fin160 E)) nX
def C160_0 (cc1 : XC) (cc2 : XC) : XC := (.z (.P 5 (.box 145 (.t 1))<|
.P 6 (.box 38 (.t 2))<|
.nil)
 (.seq (.z (.m 12 3<|
.u 13 12<|
.q 14 0<|
.nil)
 (.block 0 (.loop q160a [] [] cc2)))
 (.keep q160c [] [] cc1)))
def T160_0 (E : List (Nat × Blk)) (D : Den) (W : DrawFn) (K2 : V → V → Nat → Nat → Nat → Nat → V → Int → Int → H → Ans) (a : V) (b : Int) (c : V) (d e f g : Bool) (h i : Int) (j k : V) (l : Int) (m : Bool) (o p q : Int) (r s : V) (t : Int) (u v : V) (σ : H) : Ans :=
 nbK [(V.int .i64 b), c, (V.bool d), (V.bool e), (V.bool f), (V.bool g), (V.int .i64 h), (V.int .i64 i), j, k, (V.int .i64 l), (V.bool m), (V.int .i64 o)] σ fun s1 =>
 nbK [(V.int .i64 p), (V.int .i64 q), r, s, (V.int .i64 t), u] s1 fun s2 =>
 slenK v fun n3 =>
 K2 a v (H.next σ) 0 (H.next s1) 0 v (Int.ofNat n3) (Int.ofNat 0) s2
def C160_1 (cc4 : XC) : XC := (.z (.m 42 3<|
.u 43 42<|
.q 44 0<|
.nil)
 (.block 2 (.loop q160b [] [] cc4)))
def T160_1 (E : List (Nat × Blk)) (D : Den) (W : DrawFn) (K4 : V → Nat → Nat → Nat → Nat → V → Int → Int → H → Ans) (a b : V) (c d e f : Nat) (σ : H) : Ans :=
 slenK b fun n1 =>
 K4 a c d e f b (Int.ofNat n1) (Int.ofNat 0) σ
def C160_2 (cc3 : XC) : XC := (.z (.b 15 .lss .none (.t 14) (.t 13)<|
.nil)
 (.seq (.cond (.tmp 15) .skip
 y23)
 (.seq (.block 1 (.z (.s 16 1 12 14<|
.l 17 .i 16<|
.m 9 17<|
.nil)
 (.z (.f 18 9 5<|
.l 19 .any 18<|
.m 20 9<|
.s 21 11 19 20<|
.f 22 2 21<|
.l 23 .bool 22<|
.m 24 23<|
.gO 24 false (.p 25 [5, 24] (.faddr 9 (.t 5))<|
.p 26 [25, 24] (.load none (.t 25))<|
.p 27 [9, 24] (.mov (.t 9))<|
.p 28 [26, 27, 24] (.iaddrS 11 (.t 26) (.t 27))<|
.p 29 [28, 24] (.faddr 3 (.t 28))<|
.op (some 30) .bool [29, 24] (.load none (.t 29))<|
.nil) 31 24 30<|
.nil)
 (.cond (.tmp 31) (.ops (.m 32 0<|
.f 33 3 6<|
.l 34 .any 33<|
.m 35 9<|
.s 36 6 34 35<|
.O 37 y2 (.load (some 6) (.t 36))<|
.k 38 .bool 158 [(.t 37)]<|
.P 39 (.un .not (.t 38))<|
.k 40 y10 71 [(.t 32), (.t 39)]<|
.nil))
 .skip))))
 (.keep q160a [] [] cc3))))
def T160_2 (E : List (Nat × Blk)) (D : Den) (W : DrawFn) (K1 : V → V → Nat → Nat → Nat → Nat → H → Ans) (K3 : V → V → Nat → Nat → Nat → Nat → V → Int → Int → H → Ans) (a b : V) (c d e f : Nat) (g : V) (h i : Int) (σ : H) : Ans :=
 condK (ltF i h) (
 iaddrSK 1 g i fun b1 o2 =>
 ldK E σ b1 o2 fun u3 =>
 rtInt .i64 u3 fun x4 =>
 ldK E σ c (Nat.add d 9) fun u5 =>
 iaddrSK 11 u5 x4 fun b6 o7 =>
 ldK E σ b6 (Nat.add o7 2) fun u8 =>
 rtBool u8 fun x9 =>
 joinB (fun c10 s11 =>
 condK c10 (
 ldK E s11 e (Nat.add f 3) fun u13 =>
 iaddrSK 6 u13 x4 fun b14 o15 =>
 ldnK E s11 b14 o15 6 fun l16 =>
 xcI .i64 l16 fun x19 l18 =>
 xcI .i64 l18 fun x22 l21 =>
 rtCons l21 fun x23 l24 =>
 rtCons l24 fun x25 l26 =>
 xcI .i64 l26 fun x29 l28 =>
 rtCons l28 fun x30 l31 =>
 rtNil l31 (
 callK (D 158 [(V.agg [(V.int .i64 x19), (V.int .i64 x22), x23, x25, (V.int .i64 x29), x30])] s11) fun u32 s33 =>
 rtBool u32 fun x34 =>
 callK (D 71 [a, (V.bool (not x34))] s33) fun u35 s36 =>
 rtTup u35 fun l37 =>
 rtNil l37 (
 K3 a b c d e f g h i s36))) (
 K3 a b c d e f g h i s11)) fun k12 =>
 condK x9 (
 k12 true σ) (
 ldK E σ c (Nat.add d 9) fun u38 =>
 iaddrSK 11 u38 x4 fun b39 o40 =>
 ldK E σ b39 (Nat.add o40 3) fun u41 =>
 rtBool u41 fun x42 =>
 k12 x42 σ)) (
 K1 a b c d e f σ)
def C160_3 : XC := (.ops (.b 41 .add .none (.t 14) (.i 1)<|
.m 14 41<|
.nil))
def T160_3 (E : List (Nat × Blk)) (D : Den) (W : DrawFn) (R2 : V → V → Nat → Nat → Nat → Nat → V → Int → Int → H → Ans) (a b : V) (c d e f : Nat) (g : V) (h i : Int) (σ : H) : Ans :=
 R2 a b c d e f g h (addF .i64 i (Int.ofNat 1)) σ
def C160_4 (cc5 : XC) : XC := (.z (.b 45 .lss .none (.t 44) (.t 43)<|
.nil)
 (.seq (.cond (.tmp 45) .skip
 (.exit 2))
 (.seq (.block 3 (.z (.s 46 1 42 44<|
.l 47 .i 46<|
.m 11 47<|
.nil)
 (.z (.f 48 3 6<|
.l 49 .any 48<|
.m 50 11<|
.s 51 6 49 50<|
.O 52 y2 (.load (some 6) (.t 51))<|
.k 53 .bool 158 [(.t 52)]<|
.P 54 (.un .not (.t 53))<|
.nil)
 (.cond (.tmp 54) (.draw (.m 55 0<|
.f 56 9 5<|
.l 57 .any 56<|
.m 58 11<|
.s 59 11 57 58<|
.f 60 1 59<|
.l 61 .i 60<|
.f 62 3 6<|
.l 63 .any 62<|
.m 64 11<|
.s 65 6 63 64<|
.O 66 y2 (.load (some 6) (.t 65))<|
.k 67 y10 39 [(.t 55), (.t 61), (.t 66)]<|
.nil) [0, 0, 2, 0, 14, 30, 62, 0, 128, 0, 896, 1920, 4095])
 .skip))))
 (.keep q160b [] [] cc5))))
def T160_4 (E : List (Nat × Blk)) (D : Den) (W : DrawFn) (K5 : V → Nat → Nat → Nat → Nat → V → Int → Int → H → Ans) (a : V) (b c d e : Nat) (f : V) (g h : Int) (σ : H) : Ans :=
 condK (ltF h g) (
 iaddrSK 1 f h fun b1 o2 =>
 ldK E σ b1 o2 fun u3 =>
 rtInt .i64 u3 fun x4 =>
 ldK E σ d (Nat.add e 3) fun u5 =>
 iaddrSK 6 u5 x4 fun b6 o7 =>
 ldnK E σ b6 o7 6 fun l8 =>
 xcI .i64 l8 fun x11 l10 =>
 xcI .i64 l10 fun x14 l13 =>
 rtCons l13 fun x15 l16 =>
 rtCons l16 fun x17 l18 =>
 xcI .i64 l18 fun x21 l20 =>
 rtCons l20 fun x22 l23 =>
 rtNil l23 (
 callK (D 158 [(V.agg [(V.int .i64 x11), (V.int .i64 x14), x15, x17, (V.int .i64 x21), x22])] σ) fun u24 s25 =>
 rtBool u24 fun x26 =>
 condK (not x26) (
 ldK E s25 b (Nat.add c 9) fun u27 =>
 iaddrSK 11 u27 x4 fun b28 o29 =>
 ldK E s25 b28 (Nat.add o29 1) fun u30 =>
 rtInt .i64 u30 fun x31 =>
 ldK E s25 d (Nat.add e 3) fun u32 =>
 iaddrSK 6 u32 x4 fun b33 o34 =>
 ldnK E s25 b33 o34 6 fun l35 =>
 xcI .i64 l35 fun x38 l37 =>
 xcI .i64 l37 fun x41 l40 =>
 rtCons l40 fun x42 l43 =>
 rtCons l43 fun x44 l45 =>
 xcI .i64 l45 fun x48 l47 =>
 rtCons l47 fun x49 l50 =>
 rtNil l50 (
 callK (D 39 [a, (V.int .i64 x31), (V.agg [(V.int .i64 x38), (V.int .i64 x41), x42, x44, (V.int .i64 x48), x49])] s25) fun u51 s52 =>
 rtTup u51 fun l53 =>
 rtNil l53 (
 K5 a b c d e f g h s52))) (
 K5 a b c d e f g h s25))) (
 some ((V.tup []), σ))
def C160_5 : XC := (.ops (.b 68 .add .none (.t 44) (.i 1)<|
.m 44 68<|
.nil))
def T160_5 (E : List (Nat × Blk)) (D : Den) (W : DrawFn) (R4 : V → Nat → Nat → Nat → Nat → V → Int → Int → H → Ans) (a : V) (b c d e : Nat) (f : V) (g h : Int) (σ : H) : Ans :=
 R4 a b c d e f g (addF .i64 h (Int.ofNat 1)) σ
def S160_0 (a : V) (b : Int) (c : V) (d e f g : Bool) (h i : Int) (j k : V) (l : Int) (m : Bool) (o p q : Int) (r s : V) (t : Int) (u v : V) (σ : H) : St := ⟨[(0, a), (1, (V.agg [(V.int .i64 b), c, (V.bool d), (V.bool e), (V.bool f), (V.bool g), (V.int .i64 h), (V.int .i64 i), j, k, (V.int .i64 l), (V.bool m), (V.int .i64 o)])), (2, (V.agg [(V.int .i64 p), (V.int .i64 q), r, s, (V.int .i64 t), u])), (3, v)], [], [], σ⟩
def S160_1 (a b : V) (c d e f : Nat) (σ : H) : St := ⟨[(0, a), (3, b), (5, (V.ptr c d)), (6, (V.ptr e f))], [], [], σ⟩
def S160_2 (a b : V) (c d e f : Nat) (g : V) (h i : Int) (σ : H) : St := ⟨[(0, a), (3, b), (5, (V.ptr c d)), (6, (V.ptr e f)), (12, g), (13, (V.int .i64 h)), (14, (V.int .i64 i))], [], [], σ⟩
def S160_3 (a b : V) (c d e f : Nat) (g : V) (h i : Int) (σ : H) : St := ⟨[(0, a), (3, b), (5, (V.ptr c d)), (6, (V.ptr e f)), (12, g), (13, (V.int .i64 h)), (14, (V.int .i64 i))], [], [], σ⟩
def S160_4 (a : V) (b c d e : Nat) (f : V) (g h : Int) (σ : H) : St := ⟨[(0, a), (5, (V.ptr b c)), (6, (V.ptr d e)), (42, f), (43, (V.int .i64 g)), (44, (V.int .i64 h))], [], [], σ⟩
def S160_5 (a : V) (b c d e : Nat) (f : V) (g h : Int) (σ : H) : St := ⟨[(0, a), (5, (V.ptr b c)), (6, (V.ptr d e)), (42, f), (43, (V.int .i64 g)), (44, (V.int .i64 h))], [], [], σ⟩
theorem P160_0 (cc1 : XC) (cc2 : XC) (a : V) (b : Int) (c : V) (d e f g : Bool) (h i : Int) (j k : V) (l : Int) (m : Bool) (o p q : Int) (r s : V) (t : Int) (u v : V) (σ : H) :
 denC E D W N (C160_0 cc1 cc2) (S160_0 a b c d e f g h i j k l m o p q r s t u v σ) (Fin160 E) nX (Fin160 E) =
 T160_0 E D W (fun a v w x y z B I M σ => iterK (fun rec s' => denC E D W N cc2 s' (kX q160a [] [] rec) (b160a E D W N cc1) (Fin160 E)) N (S160_2 a v w x y z B I M σ)) a b c d e f g h i j k l m o p q r s t u v σ := by kernel_rfl
theorem P160_1 (cc4 : XC) (a b : V) (c d e f : Nat) (σ : H) :
 denC E D W N (C160_1 cc4) (S160_1 a b c d e f σ) (Fin160 E) nX (Fin160 E) =
 T160_1 E D W (fun a c d e f g h i σ => iterK (fun rec s' => denC E D W N cc4 s' (kX q160b [] [] rec) (blkK 2 (Fin160 E) nX) (Fin160 E)) N (S160_4 a c d e f g h i σ)) a b c d e f σ := by kernel_rfl
theorem P160_2 (cc1 : XC) (cc3 : XC) (li2 : St → Ans) (a b : V) (c d e f : Nat) (g : V) (h i : Int) (σ : H) :
 denC E D W N (C160_2 cc3) (S160_2 a b c d e f g h i σ) (kX q160a [] [] li2) (b160a E D W N cc1) (Fin160 E) =
 T160_2 E D W (fun a b c d e f σ => denC E D W N cc1 (S160_1 a b c d e f σ) (Fin160 E) nX (Fin160 E)) (fun a b c d e f g h i σ => denC E D W N cc3 (S160_3 a b c d e f g h i σ) (kX q160a [] [] li2) (b160a E D W N cc1) (Fin160 E)) a b c d e f g h i σ := by kernel_rfl
theorem P160_3 (cc1 : XC) (li2 : St → Ans) (a b : V) (c d e f : Nat) (g : V) (h i : Int) (σ : H) :
 denC E D W N (C160_3 ) (S160_3 a b c d e f g h i σ) (kX q160a [] [] li2) (b160a E D W N cc1) (Fin160 E) =
 T160_3 E D W (fun a b c d e f g h i σ => li2 (S160_2 a b c d e f g h i σ)) a b c d e f g h i σ := by kernel_rfl
theorem P160_4 (cc5 : XC) (li4 : St → Ans) (a : V) (b c d e : Nat) (f : V) (g h : Int) (σ : H) :
 denC E D W N (C160_4 cc5) (S160_4 a b c d e f g h σ) (kX q160b [] [] li4) (blkK 2 (Fin160 E) nX) (Fin160 E) =
 T160_4 E D W (fun a b c d e f g h σ => denC E D W N cc5 (S160_5 a b c d e f g h σ) (kX q160b [] [] li4) (blkK 2 (Fin160 E) nX) (Fin160 E)) a b c d e f g h σ := by kernel_rfl
theorem P160_5 (li4 : St → Ans) (a : V) (b c d e : Nat) (f : V) (g h : Int) (σ : H) :
 denC E D W N (C160_5 ) (S160_5 a b c d e f g h σ) (kX q160b [] [] li4) (blkK 2 (Fin160 E) nX) (Fin160 E) =
 T160_5 E D W (fun a b c d e f g h σ => li4 (S160_4 a b c d e f g h σ)) a b c d e f g h σ := by kernel_rfl
def J160_5 (E : List (Nat × Blk)) (D : Den) (W : DrawFn) (N : Nat) (R4 : V → Nat → Nat → Nat → Nat → V → Int → Int → H → Ans) := T160_5 E D W R4
theorem JE160_5 (li4 : St → Ans) (a : V) (b c d e : Nat) (f : V) (g h : Int) (σ : H) :
 denC E D W N C160_5 (S160_5 a b c d e f g h σ) (kX q160b [] [] li4) (blkK 2 (Fin160 E) nX) (Fin160 E) = J160_5 E D W N (fun a b c d e f g h σ => li4 (S160_4 a b c d e f g h σ)) a b c d e f g h σ := by
 refine (P160_5 E D W N  li4 a b c d e f g h σ).trans ?_
 kernel_rfl
def L160_4 (n : Nat) : V → Nat → Nat → Nat → Nat → V → Int → Int → H → Ans :=
 Nat.rec (fun _ _ _ _ _ _ _ _ _ => none) (fun _ ih => T160_4 E D W (J160_5 E D W N ih)) n
theorem LE160_4 (n : Nat) : ∀ (a : V) (b c d e : Nat) (f : V) (g h : Int) (σ : H),
 iterK (fun rec s' => denC E D W N (C160_4 C160_5) s' (kX q160b [] [] rec) (blkK 2 (Fin160 E) nX) (Fin160 E)) n (S160_4 a b c d e f g h σ) = L160_4 E D W N n a b c d e f g h σ := by
 induction n with
 | zero => intro a b c d e f g h σ; rfl
 | succ n ihn =>
  intro a b c d e f g h σ
  rw [iterK_succ]
  refine (P160_4 E D W N C160_5 (iterK (fun rec s' => denC E D W N (C160_4 C160_5) s' (kX q160b [] [] rec) (blkK 2 (Fin160 E) nX) (Fin160 E)) n) a b c d e f g h σ).trans ?_
  simp only [ihn, JE160_5]
  kernel_rfl
def J160_1 := T160_1 E D W (L160_4 E D W N N)
theorem JE160_1 (a b : V) (c d e f : Nat) (σ : H) :
 denC E D W N (C160_1 (C160_4 C160_5)) (S160_1 a b c d e f σ) (Fin160 E) nX (Fin160 E) = J160_1 E D W N a b c d e f σ := by
 refine (P160_1 E D W N (C160_4 C160_5)  a b c d e f σ).trans ?_
 simp only [LE160_4]
 kernel_rfl
def J160_3 (E : List (Nat × Blk)) (D : Den) (W : DrawFn) (N : Nat) (R2 : V → V → Nat → Nat → Nat → Nat → V → Int → Int → H → Ans) := T160_3 E D W R2
theorem JE160_3 (li2 : St → Ans) (a b : V) (c d e f : Nat) (g : V) (h i : Int) (σ : H) :
 denC E D W N C160_3 (S160_3 a b c d e f g h i σ) (kX q160a [] [] li2) (b160a E D W N (C160_1 (C160_4 C160_5))) (Fin160 E) = J160_3 E D W N (fun a b c d e f g h i σ => li2 (S160_2 a b c d e f g h i σ)) a b c d e f g h i σ := by
 refine (P160_3 E D W N (C160_1 (C160_4 C160_5)) li2 a b c d e f g h i σ).trans ?_
 kernel_rfl
def L160_2 (n : Nat) : V → V → Nat → Nat → Nat → Nat → V → Int → Int → H → Ans :=
 Nat.rec (fun _ _ _ _ _ _ _ _ _ _ => none) (fun _ ih => T160_2 E D W (J160_1 E D W N ) (J160_3 E D W N ih)) n
theorem LE160_2 (n : Nat) : ∀ (a b : V) (c d e f : Nat) (g : V) (h i : Int) (σ : H),
 iterK (fun rec s' => denC E D W N (C160_2 C160_3) s' (kX q160a [] [] rec) (b160a E D W N (C160_1 (C160_4 C160_5))) (Fin160 E)) n (S160_2 a b c d e f g h i σ) = L160_2 E D W N n a b c d e f g h i σ := by
 induction n with
 | zero => intro a b c d e f g h i σ; rfl
 | succ n ihn =>
  intro a b c d e f g h i σ
  rw [iterK_succ]
  refine (P160_2 E D W N (C160_1 (C160_4 C160_5)) C160_3 (iterK (fun rec s' => denC E D W N (C160_2 C160_3) s' (kX q160a [] [] rec) (b160a E D W N (C160_1 (C160_4 C160_5))) (Fin160 E)) n) a b c d e f g h i σ).trans ?_
  simp only [ihn, JE160_1, JE160_3]
  kernel_rfl
def J160_0 := T160_0 E D W (L160_2 E D W N N)
theorem JE160_0 (a : V) (b : Int) (c : V) (d e f g : Bool) (h i : Int) (j k : V) (l : Int) (m : Bool) (o p q : Int) (r s : V) (t : Int) (u v : V) (σ : H) :
 denC E D W N (C160_0 (C160_1 (C160_4 C160_5)) (C160_2 C160_3)) (S160_0 a b c d e f g h i j k l m o p q r s t u v σ) (Fin160 E) nX (Fin160 E) = J160_0 E D W N a b c d e f g h i j k l m o p q r s t u v σ := by
 refine (P160_0 E D W N (C160_1 (C160_4 C160_5)) (C160_2 C160_3)  a b c d e f g h i j k l m o p q r s t u v σ).trans ?_
 simp only [LE160_2]
 kernel_rfl
def F160 (args : List V) (σ : H) : Ans :=
 rtCons args fun x1 l2 =>
 rtCons l2 fun x3 l4 =>
 rtAgg x3 fun l5 =>
 xcI .i64 l5 fun x8 l7 =>
 rtCons l7 fun x9 l10 =>
 xcB l10 fun x13 l12 =>
 xcB l12 fun x16 l15 =>
 xcB l15 fun x19 l18 =>
 xcB l18 fun x22 l21 =>
 xcI .i64 l21 fun x25 l24 =>
 xcI .i64 l24 fun x28 l27 =>
 rtCons l27 fun x29 l30 =>
 rtCons l30 fun x31 l32 =>
 xcI .i64 l32 fun x35 l34 =>
 xcB l34 fun x38 l37 =>
 xcI .i64 l37 fun x41 l40 =>
 rtNil l40 (
 rtCons l4 fun x42 l43 =>
 rtAgg x42 fun l44 =>
 xcI .i64 l44 fun x47 l46 =>
 xcI .i64 l46 fun x50 l49 =>
 rtCons l49 fun x51 l52 =>
 rtCons l52 fun x53 l54 =>
 xcI .i64 l54 fun x57 l56 =>
 rtCons l56 fun x58 l59 =>
 rtNil l59 (
 rtCons l43 fun x60 l61 =>
 rtNil l61 (
 J160_0 E D W N x1 x8 x9 x13 x16 x19 x22 x25 x28 x29 x31 x35 x38 x41 x47 x50 x51 x53 x57 x58 x60 σ)))
def A160 : XFn := ⟨69, [.any, y1, y2, .any], [], (C160_0 (C160_1 (C160_4 C160_5)) (C160_2 C160_3))⟩
theorem FE160 (args : List V) (σ : H) : runX E D W N A160 args σ = F160 E D W N args σ := by
 unfold F160
 simp only [← JE160_0]
 kernel_rfl
def q161a : List (Nat × XTy) := [(0, .ptr), (3, .any), (4, .any), (6, .ptr), (7, .ptr), (21, .any), (22, .i), (23, .i)]
def q161b : List (Nat × XTy) := [(0, .ptr), (3, .any), (4, .any), (6, .ptr), (7, .ptr), (59, .any), (60, .i), (61, .i)]
def q161c : List (Nat × XTy) := [(0, .ptr), (4, .any), (6, .ptr), (7, .ptr), (69, .any), (70, .i), (71, .i)]
def q161d : List (Nat × XTy) := [(0, .ptr), (3, .any), (4, .any), (6, .ptr), (7, .ptr)]
def q161e : List (Nat × XTy) := [(0, .ptr), (101, .any), (102, .i), (103, .i)]
def q161f : List (Nat × XTy) := [(0, .ptr), (7, .ptr)]
def G161_0 : List AOper := [⟨(some 76), .faddr 9 (.tmp 6), none⟩, ⟨(some 77), .load none (.tmp 76), none⟩, ⟨(some 78), .load none (.tmp 16), none⟩, ⟨(some 79), .iaddrS 1 (.tmp 78) (.con (V.int .i64 (Int.ofNat 0))), none⟩, ⟨(some 80), .load none (.tmp 79), none⟩, ⟨(some 81), .iaddrS 11 (.tmp 77) (.tmp 80), none⟩, ⟨(some 82), .load (some 11) (.tmp 81), none⟩, ⟨(some 17), .alloc 200 [(V.str ⟨0, 0⟩), (V.int .i64 (Int.ofNat 0)), (V.bool false), (V.bool false), (V.int .i64 (Int.ofNat 0)), (V.int .i64 (Int.ofNat 0)), V.nils, V.nils, (V.int .i64 (Int.ofNat 0)), V.nils, (V.int .i64 (Int.ofNat 0))], none⟩, ⟨none, .store 11 (.tmp 17) (.tmp 82), none⟩]
def H161_0 : List DP := [⟨0, [6]⟩, ⟨1, [76]⟩, ⟨0, [16]⟩, ⟨4, [78]⟩, ⟨12, [79]⟩, ⟨31, [77, 80]⟩, ⟨63, [81]⟩, ⟨0, []⟩, ⟨255, [17, 82]⟩]
def G161_1 : List AOper := [⟨(some 107), .mov (.tmp 0), none⟩, ⟨(some 108), .nilck (.tmp 107), none⟩, ⟨(some 109), .faddr 0 (.tmp 108), none⟩, ⟨(some 110), .load none (.tmp 109), none⟩, ⟨(some 111), .faddr 1 (.tmp 19), none⟩, ⟨(some 112), .load none (.tmp 111), none⟩, ⟨(some 113), .buildSlice 34 1 [V.nils] [(0, 1, (.tmp 112))], none⟩, ⟨(some 114), .call 74 [(.tmp 110), (.tmp 113)], none⟩]
def H161_1 : List DP := [⟨0, [0]⟩, ⟨1, [107]⟩, ⟨3, [108]⟩, ⟨7, [109]⟩, ⟨0, [19]⟩, ⟨16, [111]⟩, ⟨48, [112]⟩, ⟨127, [110, 113]⟩]
def Fin161 (E : List (Nat × Blk)) : St → Ans := fun s => resK E s [] fun l => some (oneV l, s.σ)
def b161a (c0 c1 : XC) (l0 : St → Ans) : Nat → St → Ans := blkK 1 (dX E D W N (.keep q161a [] [] c0) (kX q161a [] [] l0) (blkK 0 (dX E D W N (.keep q161d [] [] c1) (Fin161 E) nX (Fin161 E)) nX) (Fin161 E)) (blkK 0 (dX E D W N (.keep q161d [] [] c1) (Fin161 E) nX (Fin161 E)) nX)
def b161b (c0 : XC) : Nat → St → Ans := blkK 0 (dX E D W N (.keep q161d [] [] c0) (Fin161 E) nX (Fin161 E)) nX
def b161c (c0 c1 c2 : XC) (l0 : St → Ans) : Nat → St → Ans := blkK 2 (dX E D W N (.keep q161a [] [] c0) (dX E D W N (.keep q161a [] [] c1) (kX q161a [] [] l0) (b161b E D W N c2) (Fin161 E)) (b161a E D W N c1 c2 l0) (Fin161 E)) (b161a E D W N c1 c2 l0)
def b161d (c0 : XC) : Nat → St → Ans := blkK 6 (dX E D W N (.keep q161f [] [] c0) (Fin161 E) nX (Fin161 E)) nX
def b161e (c0 : XC) : Nat → St → Ans := blkK 4 (dX E D W N (.keep q161d [] [] c0) (Fin161 E) nX (Fin161 E)) nX
def C161_0 (cc1 : XC) (cc2 : XC) : XC := (.z (.P 6 (.box 145 (.t 1))<|
.P 7 (.box 38 (.t 2))<|
.nil)
 (.seq (.z (.f 20 5 7<|
.l 21 .any 20<|
.u 22 21<|
.q 23 0<|
.nil)
 (.block 0 (.loop q161a [] [] cc2)))
 (.keep q161d [] [] cc1)))
def T161_0 (E : List (Nat × Blk)) (D : Den) (W : DrawFn) (K2 : Nat → Nat → V → V → Nat → Nat → Nat → Nat → V → Int → Int → H → Ans) (a b : Nat) (c : Int) (d : V) (e f g h : Bool) (i j : Int) (k l : V) (m : Int) (o : Bool) (p q r : Int) (s t : V) (u : Int) (v w x : V) (σ : H) : Ans :=
 nbK [(V.int .i64 c), d, (V.bool e), (V.bool f), (V.bool g), (V.bool h), (V.int .i64 i), (V.int .i64 j), k, l, (V.int .i64 m), (V.bool o), (V.int .i64 p)] σ fun s1 =>
 nbK [(V.int .i64 q), (V.int .i64 r), s, t, (V.int .i64 u), v] s1 fun s2 =>
 ldK E s2 (H.next s1) 5 fun u3 =>
 slenK u3 fun n4 =>
 K2 a b w x (H.next σ) 0 (H.next s1) 0 u3 (Int.ofNat n4) (Int.ofNat 0) s2
def C161_1 (cc6 : XC) : XC := (.seq (.z (.m 39 4<|
.u 40 39<|
.m 12 40<|
.nil)
 (.z (.m 41 12<|
.b 42 .leq .none (.t 41) (.i 64)<|
.nil)
 (.cond (.tmp 42) (.ops (.m 43 0<|
.n 44 43<|
.f 45 0 44<|
.l 46 .any 45<|
.m 47 12<|
.b 48 .sub .none (.t 47) (.i 1)<|
.P 49 (.conv (.toInt .u64) (.t 48))<|
.k 50 y10 139 [(.t 46), (.t 49), (.i 7)]<|
.nil))
 (.z (.m 51 0<|
.k 52 y10 71 [(.t 51), y12]<|
.nil)
 (.ops (.m 53 0<|
.n 54 53<|
.f 55 0 54<|
.l 56 .any 55<|
.m 57 12<|
.k 58 y10 250 [(.t 56), (.t 57)]<|
.nil))))))
 (.keep q161d [] [] cc6))
def T161_1 (E : List (Nat × Blk)) (D : Den) (W : DrawFn) (K6 : Nat → Nat → V → V → Nat → Nat → Nat → Nat → H → Ans) (a b : Nat) (c d : V) (e f g h : Nat) (σ : H) : Ans :=
 slenK d fun n1 =>
 condK (leF (Int.ofNat n1) (Int.ofNat 64)) (
 ldK E σ a b fun u2 =>
 callK (D 139 [u2, (V.int .u64 (wrapF .u64 (subF .i64 (Int.ofNat n1) (Int.ofNat 1)))), (V.int .i64 (Int.ofNat 7))] σ) fun u3 s4 =>
 rtTup u3 fun l5 =>
 rtNil l5 (
 K6 a b c d e f g h s4)) (
 callK (D 71 [(V.ptr a b), (V.bool true)] σ) fun u6 s7 =>
 rtTup u6 fun l8 =>
 rtNil l8 (
 ldK E s7 a b fun u9 =>
 callK (D 250 [u9, (V.int .i64 (Int.ofNat n1))] s7) fun u10 s11 =>
 rtTup u10 fun l12 =>
 rtNil l12 (
 K6 a b c d e f g h s11)))
def C161_2 (cc3 : XC) (cc4 : XC) (cc5 : XC) : XC := (.z (.b 24 .lss .none (.t 23) (.t 22)<|
.nil)
 (.seq (.cond (.tmp 24) .skip
 y23)
 (.seq (.block 1 (.z (.s 25 2 21 23<|
.O 26 (.agg [.i, .any]) (.load (some 2) (.t 25))<|
.pal 11 [] 70 [y0, V.nils]<|
.op none (.agg [.i, .any]) [11, 26] (.store 2 (.t 11) (.t 26))<|
.nil)
 (.seq (.block 2 (.loop q161a [11] [(11, [.i, .any])] cc5))
 (.keep q161a [] [] cc4))))
 (.keep q161a [] [] cc3))))
def T161_2 (E : List (Nat × Blk)) (D : Den) (W : DrawFn) (K1 : Nat → Nat → V → V → Nat → Nat → Nat → Nat → H → Ans) (K5 : Nat → Nat → V → V → Nat → Nat → Nat → Nat → V → Int → Int → Int → V → H → Ans) (a b : Nat) (c d : V) (e f g h : Nat) (i : V) (j k : Int) (σ : H) : Ans :=
 condK (ltF k j) (
 iaddrSK 2 i k fun b1 o2 =>
 ldnK E σ b1 o2 2 fun l3 =>
 xcI .i64 l3 fun x6 l5 =>
 rtCons l5 fun x7 l8 =>
 rtNil l8 (
 chk (allOne [(V.int .i64 x6), x7]) (
 K5 a b c d e f g h i j k x6 x7 σ))) (
 K1 a b c d e f g h σ)
def C161_3 : XC := (.ops (.b 38 .add .none (.t 23) (.i 1)<|
.m 23 38<|
.nil))
def T161_3 (E : List (Nat × Blk)) (D : Den) (W : DrawFn) (R2 : Nat → Nat → V → V → Nat → Nat → Nat → Nat → V → Int → Int → H → Ans) (a b : Nat) (c d : V) (e f g h : Nat) (i : V) (j k : Int) (σ : H) : Ans :=
 R2 a b c d e f g h i j (addF .i64 k (Int.ofNat 1)) σ
def C161_4 : XC := (.ops (.m 35 4<|
.p 36 [] (.buildSlice 4 1 [y3] [(0, 1, y12)])<|
.O 37 .one (.append 4 1 1 (.t 35) (.t 36))<|
.m 4 37<|
.nil))
def T161_4 (E : List (Nat × Blk)) (D : Den) (W : DrawFn) (K3 : Nat → Nat → V → V → Nat → Nat → Nat → Nat → V → Int → Int → H → Ans) (a b : Nat) (c d : V) (e f g h : Nat) (i : V) (j k : Int) (σ : H) : Ans :=
 let s1 := newB σ (.cells [(V.bool true)]);
 appK E 1 1 d (V.sl (H.next σ) 0 1 (.ex 1)) s1 fun u2 s3 =>
 rtOne u2 (
 K3 a b c u2 e f g h i j k s3)
def C161_5 : XC := (.seq (.z (.m 27 4<|
.u 28 27<|
.f 29 0 11<|
.l 30 .i 29<|
.b 31 .lss .none (.t 28) (.t 30)<|
.nil)
 (.cond (.tmp 31) .skip
 (.exit 2)))
 (.block 3 (.ops (.m 32 4<|
.p 33 [] (.buildSlice 4 1 [y3] [(0, 1, y33)])<|
.O 34 .one (.append 4 1 1 (.t 32) (.t 33))<|
.m 4 34<|
.nil))))
def T161_5 (E : List (Nat × Blk)) (D : Den) (W : DrawFn) (K4 : Nat → Nat → V → V → Nat → Nat → Nat → Nat → V → Int → Int → H → Ans) (R5 : Nat → Nat → V → V → Nat → Nat → Nat → Nat → V → Int → Int → Int → V → H → Ans) (a b : Nat) (c d : V) (e f g h : Nat) (i : V) (j k l : Int) (m : V) (σ : H) : Ans :=
 slenK d fun n1 =>
 condK (ltF (Int.ofNat n1) l) (
 let s2 := newB σ (.cells [(V.bool false)]);
 appK E 1 1 d (V.sl (H.next σ) 0 1 (.ex 1)) s2 fun u3 s4 =>
 rtOne u3 (
 R5 a b c u3 e f g h i j k l m s4)) (
 K4 a b c d e f g h i j k σ)
def C161_6 (cc7 : XC) (cc8 : XC) : XC := (.seq (.z (.m 59 4<|
.u 60 59<|
.q 61 0<|
.nil)
 (.block 4 (.loop q161b [] [] cc8)))
 (.keep q161d [] [] cc7))
def T161_6 (E : List (Nat × Blk)) (D : Den) (W : DrawFn) (K8 : Nat → Nat → V → V → Nat → Nat → Nat → Nat → V → Int → Int → H → Ans) (a b : Nat) (c d : V) (e f g h : Nat) (σ : H) : Ans :=
 slenK d fun n1 =>
 K8 a b c d e f g h d (Int.ofNat n1) (Int.ofNat 0) σ
def C161_7 (cc9 : XC) (cc10 : XC) : XC := (.seq (.z (.m 69 3<|
.u 70 69<|
.q 71 0<|
.nil)
 (.block 6 (.loop q161c [] [] cc10)))
 (.keep q161f [] [] cc9))
def T161_7 (E : List (Nat × Blk)) (D : Den) (W : DrawFn) (K10 : Nat → Nat → V → Nat → Nat → Nat → Nat → V → Int → Int → H → Ans) (a b : Nat) (c d : V) (e f g h : Nat) (σ : H) : Ans :=
 slenK c fun n1 =>
 K10 a b d e f g h c (Int.ofNat n1) (Int.ofNat 0) σ
def C161_8 : XC := (.z (.b 62 .lss .none (.t 61) (.t 60)<|
.nil)
 (.seq (.cond (.tmp 62) .skip
 (.exit 4))
 (.seq (.block 5 (.z (.s 63 1 59 61<|
.l 64 .bool 63<|
.m 14 64<|
.nil)
 (.ops (.m 65 0<|
.m 66 14<|
.k 67 y10 71 [(.t 65), (.t 66)]<|
.nil))))
 (.ops (.b 68 .add .none (.t 61) (.i 1)<|
.m 61 68<|
.nil)))))
def T161_8 (E : List (Nat × Blk)) (D : Den) (W : DrawFn) (K7 : Nat → Nat → V → V → Nat → Nat → Nat → Nat → H → Ans) (R8 : Nat → Nat → V → V → Nat → Nat → Nat → Nat → V → Int → Int → H → Ans) (a b : Nat) (c d : V) (e f g h : Nat) (i : V) (j k : Int) (σ : H) : Ans :=
 condK (ltF k j) (
 iaddrSK 1 i k fun b1 o2 =>
 ldK E σ b1 o2 fun u3 =>
 rtBool u3 fun x4 =>
 callK (D 71 [(V.ptr a b), (V.bool x4)] σ) fun u5 s6 =>
 rtTup u5 fun l7 =>
 rtNil l7 (
 R8 a b c d e f g h i j (addF .i64 k (Int.ofNat 1)) s6)) (
 K7 a b c d e f g h σ)
def C161_9 (cc12 : XC) : XC := (.z (.f 100 5 7<|
.l 101 .any 100<|
.u 102 101<|
.q 103 0<|
.nil)
 (.block 9 (.loop q161e [] [] cc12)))
def T161_9 (E : List (Nat × Blk)) (D : Den) (W : DrawFn) (K12 : Nat → Nat → V → Int → Int → H → Ans) (a b c d : Nat) (σ : H) : Ans :=
 ldK E σ c (Nat.add d 5) fun u1 =>
 slenK u1 fun n2 =>
 K12 a b u1 (Int.ofNat n2) (Int.ofNat 0) σ
def C161_10 (cc11 : XC) : XC := (.z (.b 72 .lss .none (.t 71) (.t 70)<|
.nil)
 (.seq (.cond (.tmp 72) .skip
 (.exit 6))
 (.seq (.block 7 (.z (.m 73 71<|
.s 74 1 69 71<|
.l 75 .any 74<|
.p 16 [] (.alloc 22 [V.nils])<|
.m 15 73<|
.w 1 16 75<|
.nil)
 (.seq (.keep [(0, .ptr), (4, .any), (6, .ptr), (7, .ptr), (15, .i), (16, .ptr), (69, .any), (70, .i), (71, .i)] [] [] (.gdraw G161_0 H161_0 [(0, .ptr), (4, .any), (6, .ptr), (7, .ptr), (15, .i), (16, .ptr), (17, .ptr), (69, .any), (70, .i), (71, .i)]))
 (.block 8 (.z (.m 87 4<|
.m 88 15<|
.s 89 1 87 88<|
.l 90 .bool 89<|
.P 91 (.un .not (.t 90))<|
.m 86 91<|
.nil)
 (.cond (.tmp 86) .skip
 (.z (.f 93 10 17<|
.l 94 .i 93<|
.b 95 .gtr .none (.t 94) (.i 0)<|
.m 92 95<|
.nil)
 (.cond (.tmp 92) (.ops (.m 96 0<|
.p 97 [6, 7, 16] (.mkfn 251 [] [(.t 6), (.t 7), (.t 16)])<|
.k 98 y10 152 [(.t 96), (.t 97)]<|
.nil))
 (.ops (.m 83 0<|
.p 84 [17, 7, 16] (.mkfn 252 [] [(.t 17), (.t 7), (.t 16)])<|
.k 85 y10 152 [(.t 83), (.t 84)]<|
.nil))))))))))
 (.keep q161c [] [] cc11))))
def T161_10 (K9 : Nat → Nat → Nat → Nat → H → Ans) (K11 : Nat → Nat → V → Nat → Nat → Nat → Nat → V → Int → Int → H → Ans) (a b : Nat) (c : V) (d e f g : Nat) (h : V) (i j : Int) (σ : H) : Ans :=
 condK (ltF j i) (
 iaddrSK 1 h j fun b1 o2 =>
 ldK E σ b1 o2 fun u3 =>
 let s4 := newB σ (.cells [V.nils]);
 stK 1 (H.next σ) 0 u3 s4 fun s5 =>
 gdrawK (W G161_0 H161_0 [(0, (V.ptr a b)), (4, c), (6, (V.ptr d e)), (7, (V.ptr f g)), (15, (V.int .i64 j)), (16, (V.ptr (H.next σ) 0)), (69, h), (70, (V.int .i64 i)), (71, (V.int .i64 j))] s5) fun e6 s7 =>
 getL e6 0 fun u8 =>
 rtPtr u8 fun b9 o10 =>
 getL e6 4 fun u11 =>
 getL e6 6 fun u12 =>
 rtPtr u12 fun b13 o14 =>
 getL e6 7 fun u15 =>
 rtPtr u15 fun b16 o17 =>
 getL e6 15 fun u18 =>
 rtInt .i64 u18 fun x19 =>
 getL e6 16 fun u20 =>
 rtPtr u20 fun b21 o22 =>
 getL e6 17 fun u23 =>
 rtPtr u23 fun b24 o25 =>
 getL e6 69 fun u26 =>
 getL e6 70 fun u27 =>
 rtInt .i64 u27 fun x28 =>
 getL e6 71 fun u29 =>
 rtInt .i64 u29 fun x30 =>
 iaddrSK 1 u11 x19 fun b31 o32 =>
 ldK E s7 b31 o32 fun u33 =>
 rtBool u33 fun x34 =>
 condK (not x34) (
 K11 b9 o10 u11 b13 o14 b16 o17 u26 x28 x30 s7) (
 ldK E s7 b24 (Nat.add o25 10) fun u35 =>
 rtInt .i64 u35 fun x36 =>
 condK (ltF (Int.ofNat 0) x36) (
 callK (D 152 [(V.ptr b9 o10), (V.fn 251 [] [(V.ptr b13 o14), (V.ptr b16 o17), (V.ptr b21 o22)])] s7) fun u37 s38 =>
 rtTup u37 fun l39 =>
 rtNil l39 (
 K11 b9 o10 u11 b13 o14 b16 o17 u26 x28 x30 s38)) (
 callK (D 152 [(V.ptr b9 o10), (V.fn 252 [] [(V.ptr b24 o25), (V.ptr b16 o17), (V.ptr b21 o22)])] s7) fun u40 s41 =>
 rtTup u40 fun l42 =>
 rtNil l42 (
 K11 b9 o10 u11 b13 o14 b16 o17 u26 x28 x30 s41)))) (
 K9 a b f g σ)
def C161_11 : XC := (.ops (.b 99 .add .none (.t 71) (.i 1)<|
.m 71 99<|
.nil))
def T161_11 (E : List (Nat × Blk)) (D : Den) (W : DrawFn) (R10 : Nat → Nat → V → Nat → Nat → Nat → Nat → V → Int → Int → H → Ans) (a b : Nat) (c : V) (d e f g : Nat) (h : V) (i j : Int) (σ : H) : Ans :=
 R10 a b c d e f g h i (addF .i64 j (Int.ofNat 1)) σ
def C161_12 : XC := (.z (.b 104 .lss .none (.t 103) (.t 102)<|
.nil)
 (.seq (.cond (.tmp 104) .skip
 (.exit 9))
 (.seq (.block 10 (.z (.s 105 2 101 103<|
.O 106 (.agg [.i, .any]) (.load (some 2) (.t 105))<|
.p 19 [] (.alloc 70 [y0, V.nils])<|
.op none (.agg [.i, .any]) [19, 106] (.store 2 (.t 19) (.t 106))<|
.nil)
 (.keep [(0, .ptr), (19, .ptr), (101, .any), (102, .i), (103, .i)] [] [] (.gdraw G161_1 H161_1 q161e))))
 (.ops (.b 115 .add .none (.t 103) (.i 1)<|
.m 103 115<|
.nil)))))
def T161_12 (E : List (Nat × Blk)) (D : Den) (W : DrawFn) (R12 : Nat → Nat → V → Int → Int → H → Ans) (a b : Nat) (c : V) (d e : Int) (σ : H) : Ans :=
 condK (ltF e d) (
 iaddrSK 2 c e fun b1 o2 =>
 ldnK E σ b1 o2 2 fun l3 =>
 xcI .i64 l3 fun x6 l5 =>
 rtCons l5 fun x7 l8 =>
 rtNil l8 (
 let s9 := newB σ (.cells [(V.int .i64 (Int.ofNat 0)), V.nils]);
 stK 2 (H.next σ) 0 (V.agg [(V.int .i64 x6), x7]) s9 fun s10 =>
 gdrawK (W G161_1 H161_1 [(0, (V.ptr a b)), (19, (V.ptr (H.next σ) 0)), (101, c), (102, (V.int .i64 d)), (103, (V.int .i64 e))] s10) fun e11 s12 =>
 getL e11 0 fun u13 =>
 rtPtr u13 fun b14 o15 =>
 getL e11 101 fun u16 =>
 getL e11 102 fun u17 =>
 rtInt .i64 u17 fun x18 =>
 getL e11 103 fun u19 =>
 rtInt .i64 u19 fun x20 =>
 R12 b14 o15 u16 x18 (addF .i64 x20 (Int.ofNat 1)) s12)) (
 some ((V.tup []), σ))
def S161_0 (a b : Nat) (c : Int) (d : V) (e f g h : Bool) (i j : Int) (k l : V) (m : Int) (o : Bool) (p q r : Int) (s t : V) (u : Int) (v w x : V) (σ : H) : St := ⟨[(0, (V.ptr a b)), (1, (V.agg [(V.int .i64 c), d, (V.bool e), (V.bool f), (V.bool g), (V.bool h), (V.int .i64 i), (V.int .i64 j), k, l, (V.int .i64 m), (V.bool o), (V.int .i64 p)])), (2, (V.agg [(V.int .i64 q), (V.int .i64 r), s, t, (V.int .i64 u), v])), (3, w), (4, x)], [], [], σ⟩
def S161_1 (a b : Nat) (c d : V) (e f g h : Nat) (σ : H) : St := ⟨[(0, (V.ptr a b)), (3, c), (4, d), (6, (V.ptr e f)), (7, (V.ptr g h))], [], [], σ⟩
def S161_2 (a b : Nat) (c d : V) (e f g h : Nat) (i : V) (j k : Int) (σ : H) : St := ⟨[(0, (V.ptr a b)), (3, c), (4, d), (6, (V.ptr e f)), (7, (V.ptr g h)), (21, i), (22, (V.int .i64 j)), (23, (V.int .i64 k))], [], [], σ⟩
def S161_3 (a b : Nat) (c d : V) (e f g h : Nat) (i : V) (j k : Int) (σ : H) : St := ⟨[(0, (V.ptr a b)), (3, c), (4, d), (6, (V.ptr e f)), (7, (V.ptr g h)), (21, i), (22, (V.int .i64 j)), (23, (V.int .i64 k))], [], [], σ⟩
def S161_4 (a b : Nat) (c d : V) (e f g h : Nat) (i : V) (j k : Int) (σ : H) : St := ⟨[(0, (V.ptr a b)), (3, c), (4, d), (6, (V.ptr e f)), (7, (V.ptr g h)), (21, i), (22, (V.int .i64 j)), (23, (V.int .i64 k))], [], [], σ⟩
def S161_5 (a b : Nat) (c d : V) (e f g h : Nat) (i : V) (j k l : Int) (m : V) (σ : H) : St := ⟨[(0, (V.ptr a b)), (3, c), (4, d), (6, (V.ptr e f)), (7, (V.ptr g h)), (21, i), (22, (V.int .i64 j)), (23, (V.int .i64 k))], [(11, (11, 0))], [(11, [(V.int .i64 l), m])], σ⟩
def S161_6 (a b : Nat) (c d : V) (e f g h : Nat) (σ : H) : St := ⟨[(0, (V.ptr a b)), (3, c), (4, d), (6, (V.ptr e f)), (7, (V.ptr g h))], [], [], σ⟩
def S161_7 (a b : Nat) (c d : V) (e f g h : Nat) (σ : H) : St := ⟨[(0, (V.ptr a b)), (3, c), (4, d), (6, (V.ptr e f)), (7, (V.ptr g h))], [], [], σ⟩
def S161_8 (a b : Nat) (c d : V) (e f g h : Nat) (i : V) (j k : Int) (σ : H) : St := ⟨[(0, (V.ptr a b)), (3, c), (4, d), (6, (V.ptr e f)), (7, (V.ptr g h)), (59, i), (60, (V.int .i64 j)), (61, (V.int .i64 k))], [], [], σ⟩
def S161_9 (a b c d : Nat) (σ : H) : St := ⟨[(0, (V.ptr a b)), (7, (V.ptr c d))], [], [], σ⟩
def S161_10 (a b : Nat) (c : V) (d e f g : Nat) (h : V) (i j : Int) (σ : H) : St := ⟨[(0, (V.ptr a b)), (4, c), (6, (V.ptr d e)), (7, (V.ptr f g)), (69, h), (70, (V.int .i64 i)), (71, (V.int .i64 j))], [], [], σ⟩
def S161_11 (a b : Nat) (c : V) (d e f g : Nat) (h : V) (i j : Int) (σ : H) : St := ⟨[(0, (V.ptr a b)), (4, c), (6, (V.ptr d e)), (7, (V.ptr f g)), (69, h), (70, (V.int .i64 i)), (71, (V.int .i64 j))], [], [], σ⟩
def S161_12 (a b : Nat) (c : V) (d e : Int) (σ : H) : St := ⟨[(0, (V.ptr a b)), (101, c), (102, (V.int .i64 d)), (103, (V.int .i64 e))], [], [], σ⟩
theorem P161_0 (cc1 : XC) (cc2 : XC) (a b : Nat) (c : Int) (d : V) (e f g h : Bool) (i j : Int) (k l : V) (m : Int) (o : Bool) (p q r : Int) (s t : V) (u : Int) (v w x : V) (σ : H) :
 denC E D W N (C161_0 cc1 cc2) (S161_0 a b c d e f g h i j k l m o p q r s t u v w x σ) (Fin161 E) nX (Fin161 E) =
 T161_0 E D W (fun a b w x y z B I M O U σ => iterK (fun rec s' => denC E D W N cc2 s' (kX q161a [] [] rec) (b161b E D W N cc1) (Fin161 E)) N (S161_2 a b w x y z B I M O U σ)) a b c d e f g h i j k l m o p q r s t u v w x σ := by kernel_rfl
theorem P161_1 (cc6 : XC) (a b : Nat) (c d : V) (e f g h : Nat) (σ : H) :
 denC E D W N (C161_1 cc6) (S161_1 a b c d e f g h σ) (Fin161 E) nX (Fin161 E) =
 T161_1 E D W (fun a b c d e f g h σ => denC E D W N cc6 (S161_6 a b c d e f g h σ) (Fin161 E) nX (Fin161 E)) a b c d e f g h σ := by kernel_rfl
theorem P161_2 (cc1 : XC) (cc3 : XC) (cc4 : XC) (cc5 : XC) (li2 : St → Ans) (a b : Nat) (c d : V) (e f g h : Nat) (j : V) (k l : Int) (σ : H) :
 denC E D W N (C161_2 cc3 cc4 cc5) (S161_2 a b c d e f g h j k l σ) (kX q161a [] [] li2) (b161b E D W N cc1) (Fin161 E) =
 T161_2 E D W (fun a b c d e f g h σ => denC E D W N cc1 (S161_1 a b c d e f g h σ) (Fin161 E) nX (Fin161 E)) (fun a b c d e f g h j k l m o σ => iterK (fun rec s' => denC E D W N cc5 s' (kX q161a [11] [(11, [.i, .any])] rec) (b161c E D W N cc4 cc3 cc1 li2) (Fin161 E)) N (S161_5 a b c d e f g h j k l m o σ)) a b c d e f g h j k l σ := by kernel_rfl
theorem P161_3 (cc1 : XC) (li2 : St → Ans) (a b : Nat) (c d : V) (e f g h : Nat) (i : V) (j k : Int) (σ : H) :
 denC E D W N (C161_3 ) (S161_3 a b c d e f g h i j k σ) (kX q161a [] [] li2) (b161b E D W N cc1) (Fin161 E) =
 T161_3 E D W (fun a b c d e f g h i j k σ => li2 (S161_2 a b c d e f g h i j k σ)) a b c d e f g h i j k σ := by kernel_rfl
theorem P161_4 (cc1 : XC) (cc3 : XC) (li2 : St → Ans) (a b : Nat) (c d : V) (e f g h : Nat) (i : V) (j k : Int) (σ : H) :
 denC E D W N (C161_4 ) (S161_4 a b c d e f g h i j k σ) (dX E D W N (.keep q161a [] [] cc3) (kX q161a [] [] li2) (b161b E D W N cc1) (Fin161 E)) (b161a E D W N cc3 cc1 li2) (Fin161 E) =
 T161_4 E D W (fun a b c d e f g h i j k σ => denC E D W N cc3 (S161_3 a b c d e f g h i j k σ) (kX q161a [] [] li2) (b161b E D W N cc1) (Fin161 E)) a b c d e f g h i j k σ := by kernel_rfl
theorem P161_5 (cc1 : XC) (cc3 : XC) (cc4 : XC) (li2 : St → Ans) (li5 : St → Ans) (a b : Nat) (c d : V) (e f g h : Nat) (j : V) (k l m : Int) (o : V) (σ : H) :
 denC E D W N (C161_5 ) (S161_5 a b c d e f g h j k l m o σ) (kX q161a [11] [(11, [.i, .any])] li5) (b161c E D W N cc4 cc3 cc1 li2) (Fin161 E) =
 T161_5 E D W (fun a b c d e f g h j k l σ => denC E D W N cc4 (S161_4 a b c d e f g h j k l σ) (dX E D W N (.keep q161a [] [] cc3) (kX q161a [] [] li2) (b161b E D W N cc1) (Fin161 E)) (b161a E D W N cc3 cc1 li2) (Fin161 E)) (fun a b c d e f g h j k l m o σ => li5 (S161_5 a b c d e f g h j k l m o σ)) a b c d e f g h j k l m o σ := by kernel_rfl
theorem P161_6 (cc7 : XC) (cc8 : XC) (a b : Nat) (c d : V) (e f g h : Nat) (σ : H) :
 denC E D W N (C161_6 cc7 cc8) (S161_6 a b c d e f g h σ) (Fin161 E) nX (Fin161 E) =
 T161_6 E D W (fun a b c d e f g h i j k σ => iterK (fun rec s' => denC E D W N cc8 s' (kX q161b [] [] rec) (b161e E D W N cc7) (Fin161 E)) N (S161_8 a b c d e f g h i j k σ)) a b c d e f g h σ := by kernel_rfl
theorem P161_7 (cc9 : XC) (cc10 : XC) (a b : Nat) (c d : V) (e f g h : Nat) (σ : H) :
 denC E D W N (C161_7 cc9 cc10) (S161_7 a b c d e f g h σ) (Fin161 E) nX (Fin161 E) =
 T161_7 E D W (fun a b d e f g h i j k σ => iterK (fun rec s' => denC E D W N cc10 s' (kX q161c [] [] rec) (b161d E D W N cc9) (Fin161 E)) N (S161_10 a b d e f g h i j k σ)) a b c d e f g h σ := by kernel_rfl
theorem P161_8 (cc7 : XC) (li8 : St → Ans) (a b : Nat) (c d : V) (e f g h : Nat) (i : V) (j k : Int) (σ : H) :
 denC E D W N (C161_8 ) (S161_8 a b c d e f g h i j k σ) (kX q161b [] [] li8) (b161e E D W N cc7) (Fin161 E) =
 T161_8 E D W (fun a b c d e f g h σ => denC E D W N cc7 (S161_7 a b c d e f g h σ) (Fin161 E) nX (Fin161 E)) (fun a b c d e f g h i j k σ => li8 (S161_8 a b c d e f g h i j k σ)) a b c d e f g h i j k σ := by kernel_rfl
theorem P161_9 (cc12 : XC) (a b c d : Nat) (σ : H) :
 denC E D W N (C161_9 cc12) (S161_9 a b c d σ) (Fin161 E) nX (Fin161 E) =
 T161_9 E D W (fun a b e f g σ => iterK (fun rec s' => denC E D W N cc12 s' (kX q161e [] [] rec) (blkK 9 (Fin161 E) nX) (Fin161 E)) N (S161_12 a b e f g σ)) a b c d σ := by kernel_rfl
theorem P161_10 (cc9 : XC) (cc11 : XC) (li10 : St → Ans) (a b : Nat) (c : V) (d e f g : Nat) (h : V) (i j : Int) (σ : H) :
 denC E D W N (C161_10 cc11) (S161_10 a b c d e f g h i j σ) (kX q161c [] [] li10) (b161d E D W N cc9) (Fin161 E) =
 T161_10 E D W (fun a b f g σ => denC E D W N cc9 (S161_9 a b f g σ) (Fin161 E) nX (Fin161 E)) (fun a b c d e f g h i j σ => denC E D W N cc11 (S161_11 a b c d e f g h i j σ) (kX q161c [] [] li10) (b161d E D W N cc9) (Fin161 E)) a b c d e f g h i j σ := by kernel_rfl
theorem P161_11 (cc9 : XC) (li10 : St → Ans) (a b : Nat) (c : V) (d e f g : Nat) (h : V) (i j : Int) (σ : H) :
 denC E D W N (C161_11 ) (S161_11 a b c d e f g h i j σ) (kX q161c [] [] li10) (b161d E D W N cc9) (Fin161 E) =
 T161_11 E D W (fun a b c d e f g h i j σ => li10 (S161_10 a b c d e f g h i j σ)) a b c d e f g h i j σ := by kernel_rfl
theorem P161_12 (li12 : St → Ans) (a b : Nat) (c : V) (d e : Int) (σ : H) :
 denC E D W N (C161_12 ) (S161_12 a b c d e σ) (kX q161e [] [] li12) (blkK 9 (Fin161 E) nX) (Fin161 E) =
 T161_12 E D W (fun a b c d e σ => li12 (S161_12 a b c d e σ)) a b c d e σ := by kernel_rfl
def L161_12 (E : List (Nat × Blk)) (D : Den) (W : DrawFn) (N : Nat) (n : Nat) : Nat → Nat → V → Int → Int → H → Ans :=
 Nat.rec (fun _ _ _ _ _ _ => none) (fun _ ih => T161_12 E D W ih) n
theorem LE161_12 (n : Nat) : ∀ (a b : Nat) (c : V) (d e : Int) (σ : H),
 iterK (fun rec s' => denC E D W N C161_12 s' (kX q161e [] [] rec) (blkK 9 (Fin161 E) nX) (Fin161 E)) n (S161_12 a b c d e σ) = L161_12 E D W N n a b c d e σ := by
 induction n with
 | zero => intro a b c d e σ; rfl
 | succ n ihn =>
  intro a b c d e σ
  rw [iterK_succ]
  refine (P161_12 E D W N  (iterK (fun rec s' => denC E D W N C161_12 s' (kX q161e [] [] rec) (blkK 9 (Fin161 E) nX) (Fin161 E)) n) a b c d e σ).trans ?_
  simp only [ihn]
  kernel_rfl
def J161_9 := T161_9 E D W (L161_12 E D W N N)
theorem JE161_9 (a b c d : Nat) (σ : H) :
 denC E D W N (C161_9 C161_12) (S161_9 a b c d σ) (Fin161 E) nX (Fin161 E) = J161_9 E D W N a b c d σ := by
 refine (P161_9 E D W N C161_12  a b c d σ).trans ?_
 simp only [LE161_12]
 kernel_rfl
def J161_11 (E : List (Nat × Blk)) (D : Den) (W : DrawFn) (N : Nat) (R10 : Nat → Nat → V → Nat → Nat → Nat → Nat → V → Int → Int → H → Ans) := T161_11 E D W R10
theorem JE161_11 (li10 : St → Ans) (a b : Nat) (c : V) (d e f g : Nat) (h : V) (i j : Int) (σ : H) :
 denC E D W N C161_11 (S161_11 a b c d e f g h i j σ) (kX q161c [] [] li10) (b161d E D W N (C161_9 C161_12)) (Fin161 E) = J161_11 E D W N (fun a b c d e f g h i j σ => li10 (S161_10 a b c d e f g h i j σ)) a b c d e f g h i j σ := by
 refine (P161_11 E D W N (C161_9 C161_12) li10 a b c d e f g h i j σ).trans ?_
 kernel_rfl
def L161_10 (n : Nat) : Nat → Nat → V → Nat → Nat → Nat → Nat → V → Int → Int → H → Ans :=
 Nat.rec (fun _ _ _ _ _ _ _ _ _ _ _ => none) (fun _ ih => T161_10 E D W (J161_9 E D W N ) (J161_11 E D W N ih)) n
theorem LE161_10 (n : Nat) : ∀ (a b : Nat) (c : V) (d e f g : Nat) (h : V) (i j : Int) (σ : H),
 iterK (fun rec s' => denC E D W N (C161_10 C161_11) s' (kX q161c [] [] rec) (b161d E D W N (C161_9 C161_12)) (Fin161 E)) n (S161_10 a b c d e f g h i j σ) = L161_10 E D W N n a b c d e f g h i j σ := by
 induction n with
 | zero => intro a b c d e f g h i j σ; rfl
 | succ n ihn =>
  intro a b c d e f g h i j σ
  rw [iterK_succ]
  refine (P161_10 E D W N (C161_9 C161_12) C161_11 (iterK (fun rec s' => denC E D W N (C161_10 C161_11) s' (kX q161c [] [] rec) (b161d E D W N (C161_9 C161_12)) (Fin161 E)) n) a b c d e f g h i j σ).trans ?_
  simp only [ihn, JE161_9, JE161_11]
  kernel_rfl
def J161_7 := T161_7 E D W (L161_10 E D W N N)
theorem JE161_7 (a b : Nat) (c d : V) (e f g h : Nat) (σ : H) :
 denC E D W N (C161_7 (C161_9 C161_12) (C161_10 C161_11)) (S161_7 a b c d e f g h σ) (Fin161 E) nX (Fin161 E) = J161_7 E D W N a b c d e f g h σ := by
 refine (P161_7 E D W N (C161_9 C161_12) (C161_10 C161_11)  a b c d e f g h σ).trans ?_
 simp only [LE161_10]
 kernel_rfl
def L161_8 (n : Nat) : Nat → Nat → V → V → Nat → Nat → Nat → Nat → V → Int → Int → H → Ans :=
 Nat.rec (fun _ _ _ _ _ _ _ _ _ _ _ _ => none) (fun _ ih => T161_8 E D W (J161_7 E D W N ) ih) n
theorem LE161_8 (n : Nat) : ∀ (a b : Nat) (c d : V) (e f g h : Nat) (i : V) (j k : Int) (σ : H),
 iterK (fun rec s' => denC E D W N C161_8 s' (kX q161b [] [] rec) (b161e E D W N (C161_7 (C161_9 C161_12) (C161_10 C161_11))) (Fin161 E)) n (S161_8 a b c d e f g h i j k σ) = L161_8 E D W N n a b c d e f g h i j k σ := by
 induction n with
 | zero => intro a b c d e f g h i j k σ; rfl
 | succ n ihn =>
  intro a b c d e f g h i j k σ
  rw [iterK_succ]
  refine (P161_8 E D W N (C161_7 (C161_9 C161_12) (C161_10 C161_11)) (iterK (fun rec s' => denC E D W N C161_8 s' (kX q161b [] [] rec) (b161e E D W N (C161_7 (C161_9 C161_12) (C161_10 C161_11))) (Fin161 E)) n) a b c d e f g h i j k σ).trans ?_
  simp only [ihn, JE161_7]
  kernel_rfl
def J161_6 := T161_6 E D W (L161_8 E D W N N)
theorem JE161_6 (a b : Nat) (c d : V) (e f g h : Nat) (σ : H) :
 denC E D W N (C161_6 (C161_7 (C161_9 C161_12) (C161_10 C161_11)) C161_8) (S161_6 a b c d e f g h σ) (Fin161 E) nX (Fin161 E) = J161_6 E D W N a b c d e f g h σ := by
 refine (P161_6 E D W N (C161_7 (C161_9 C161_12) (C161_10 C161_11)) C161_8  a b c d e f g h σ).trans ?_
 simp only [LE161_8]
 kernel_rfl
def J161_1 := T161_1 E D W (J161_6 E D W N )
theorem JE161_1 (a b : Nat) (c d : V) (e f g h : Nat) (σ : H) :
 denC E D W N (C161_1 (C161_6 (C161_7 (C161_9 C161_12) (C161_10 C161_11)) C161_8)) (S161_1 a b c d e f g h σ) (Fin161 E) nX (Fin161 E) = J161_1 E D W N a b c d e f g h σ := by
 refine (P161_1 E D W N (C161_6 (C161_7 (C161_9 C161_12) (C161_10 C161_11)) C161_8)  a b c d e f g h σ).trans ?_
 simp only [JE161_6]
 kernel_rfl
def J161_3 (E : List (Nat × Blk)) (D : Den) (W : DrawFn) (N : Nat) (R2 : Nat → Nat → V → V → Nat → Nat → Nat → Nat → V → Int → Int → H → Ans) := T161_3 E D W R2
theorem JE161_3 (li2 : St → Ans) (a b : Nat) (c d : V) (e f g h : Nat) (i : V) (j k : Int) (σ : H) :
 denC E D W N C161_3 (S161_3 a b c d e f g h i j k σ) (kX q161a [] [] li2) (b161b E D W N (C161_1 (C161_6 (C161_7 (C161_9 C161_12) (C161_10 C161_11)) C161_8))) (Fin161 E) = J161_3 E D W N (fun a b c d e f g h i j k σ => li2 (S161_2 a b c d e f g h i j k σ)) a b c d e f g h i j k σ := by
 refine (P161_3 E D W N (C161_1 (C161_6 (C161_7 (C161_9 C161_12) (C161_10 C161_11)) C161_8)) li2 a b c d e f g h i j k σ).trans ?_
 kernel_rfl
def J161_4 (R2 : Nat → Nat → V → V → Nat → Nat → Nat → Nat → V → Int → Int → H → Ans) := T161_4 E D W (J161_3 E D W N R2)
theorem JE161_4 (li2 : St → Ans) (a b : Nat) (c d : V) (e f g h : Nat) (i : V) (j k : Int) (σ : H) :
 denC E D W N C161_4 (S161_4 a b c d e f g h i j k σ) (dX E D W N (.keep q161a [] [] C161_3) (kX q161a [] [] li2) (b161b E D W N (C161_1 (C161_6 (C161_7 (C161_9 C161_12) (C161_10 C161_11)) C161_8))) (Fin161 E)) (b161a E D W N C161_3 (C161_1 (C161_6 (C161_7 (C161_9 C161_12) (C161_10 C161_11)) C161_8)) li2) (Fin161 E) = J161_4 E D W N (fun a b c d e f g h i j k σ => li2 (S161_2 a b c d e f g h i j k σ)) a b c d e f g h i j k σ := by
 refine (P161_4 E D W N (C161_1 (C161_6 (C161_7 (C161_9 C161_12) (C161_10 C161_11)) C161_8)) C161_3 li2 a b c d e f g h i j k σ).trans ?_
 simp only [JE161_3]
 kernel_rfl
def L161_5 (R2 : Nat → Nat → V → V → Nat → Nat → Nat → Nat → V → Int → Int → H → Ans) (n : Nat) : Nat → Nat → V → V → Nat → Nat → Nat → Nat → V → Int → Int → Int → V → H → Ans :=
 Nat.rec (fun _ _ _ _ _ _ _ _ _ _ _ _ _ _ => none) (fun _ ih => T161_5 E D W (J161_4 E D W N R2) ih) n
theorem LE161_5 (li2 : St → Ans) (n : Nat) : ∀ (a b : Nat) (c d : V) (e f g h : Nat) (j : V) (k l m : Int) (o : V) (σ : H),
 iterK (fun rec s' => denC E D W N C161_5 s' (kX q161a [11] [(11, [.i, .any])] rec) (b161c E D W N C161_4 C161_3 (C161_1 (C161_6 (C161_7 (C161_9 C161_12) (C161_10 C161_11)) C161_8)) li2) (Fin161 E)) n (S161_5 a b c d e f g h j k l m o σ) = L161_5 E D W N (fun a b c d e f g h j k l σ => li2 (S161_2 a b c d e f g h j k l σ)) n a b c d e f g h j k l m o σ := by
 induction n with
 | zero => intro a b c d e f g h j k l m o σ; rfl
 | succ n ihn =>
  intro a b c d e f g h j k l m o σ
  rw [iterK_succ]
  refine (P161_5 E D W N (C161_1 (C161_6 (C161_7 (C161_9 C161_12) (C161_10 C161_11)) C161_8)) C161_3 C161_4 li2 (iterK (fun rec s' => denC E D W N C161_5 s' (kX q161a [11] [(11, [.i, .any])] rec) (b161c E D W N C161_4 C161_3 (C161_1 (C161_6 (C161_7 (C161_9 C161_12) (C161_10 C161_11)) C161_8)) li2) (Fin161 E)) n) a b c d e f g h j k l m o σ).trans ?_
  simp only [ihn, JE161_4]
  kernel_rfl
def L161_2 (n : Nat) : Nat → Nat → V → V → Nat → Nat → Nat → Nat → V → Int → Int → H → Ans :=
 Nat.rec (fun _ _ _ _ _ _ _ _ _ _ _ _ => none) (fun _ ih => T161_2 E D W (J161_1 E D W N ) (L161_5 E D W N ih N)) n
theorem LE161_2 (n : Nat) : ∀ (a b : Nat) (c d : V) (e f g h : Nat) (i : V) (j k : Int) (σ : H),
 iterK (fun rec s' => denC E D W N (C161_2 C161_3 C161_4 C161_5) s' (kX q161a [] [] rec) (b161b E D W N (C161_1 (C161_6 (C161_7 (C161_9 C161_12) (C161_10 C161_11)) C161_8))) (Fin161 E)) n (S161_2 a b c d e f g h i j k σ) = L161_2 E D W N n a b c d e f g h i j k σ := by
 induction n with
 | zero => intro a b c d e f g h i j k σ; rfl
 | succ n ihn =>
  intro a b c d e f g h i j k σ
  rw [iterK_succ]
  refine (P161_2 E D W N (C161_1 (C161_6 (C161_7 (C161_9 C161_12) (C161_10 C161_11)) C161_8)) C161_3 C161_4 C161_5 (iterK (fun rec s' => denC E D W N (C161_2 C161_3 C161_4 C161_5) s' (kX q161a [] [] rec) (b161b E D W N (C161_1 (C161_6 (C161_7 (C161_9 C161_12) (C161_10 C161_11)) C161_8))) (Fin161 E)) n) a b c d e f g h i j k σ).trans ?_
  simp only [ihn, JE161_1, LE161_5]
  kernel_rfl
def J161_0 := T161_0 E D W (L161_2 E D W N N)
theorem JE161_0 (a b : Nat) (c : Int) (d : V) (e f g h : Bool) (i j : Int) (k l : V) (m : Int) (o : Bool) (p q r : Int) (s t : V) (u : Int) (v w x : V) (σ : H) :
 denC E D W N (C161_0 (C161_1 (C161_6 (C161_7 (C161_9 C161_12) (C161_10 C161_11)) C161_8)) (C161_2 C161_3 C161_4 C161_5)) (S161_0 a b c d e f g h i j k l m o p q r s t u v w x σ) (Fin161 E) nX (Fin161 E) = J161_0 E D W N a b c d e f g h i j k l m o p q r s t u v w x σ := by
 refine (P161_0 E D W N (C161_1 (C161_6 (C161_7 (C161_9 C161_12) (C161_10 C161_11)) C161_8)) (C161_2 C161_3 C161_4 C161_5)  a b c d e f g h i j k l m o p q r s t u v w x σ).trans ?_
 simp only [LE161_2]
 kernel_rfl
def F161 (args : List V) (σ : H) : Ans :=
 rtCons args fun x1 l2 =>
 rtPtr x1 fun b3 o4 =>
 rtCons l2 fun x5 l6 =>
 rtAgg x5 fun l7 =>
 xcI .i64 l7 fun x10 l9 =>
 rtCons l9 fun x11 l12 =>
 xcB l12 fun x15 l14 =>
 xcB l14 fun x18 l17 =>
 xcB l17 fun x21 l20 =>
 xcB l20 fun x24 l23 =>
 xcI .i64 l23 fun x27 l26 =>
 xcI .i64 l26 fun x30 l29 =>
 rtCons l29 fun x31 l32 =>
 rtCons l32 fun x33 l34 =>
 xcI .i64 l34 fun x37 l36 =>
 xcB l36 fun x40 l39 =>
 xcI .i64 l39 fun x43 l42 =>
 rtNil l42 (
 rtCons l6 fun x44 l45 =>
 rtAgg x44 fun l46 =>
 xcI .i64 l46 fun x49 l48 =>
 xcI .i64 l48 fun x52 l51 =>
 rtCons l51 fun x53 l54 =>
 rtCons l54 fun x55 l56 =>
 xcI .i64 l56 fun x59 l58 =>
 rtCons l58 fun x60 l61 =>
 rtNil l61 (
 rtCons l45 fun x62 l63 =>
 rtCons l63 fun x64 l65 =>
 rtNil l65 (
 J161_0 E D W N b3 o4 x10 x11 x15 x18 x21 x24 x27 x30 x31 x33 x37 x40 x43 x49 x52 x53 x55 x59 x60 x62 x64 σ)))
def A161 : XFn := ⟨116, [.ptr, y1, y2, .any, .any], [], (C161_0 (C161_1 (C161_6 (C161_7 (C161_9 C161_12) (C161_10 C161_11)) C161_8)) (C161_2 C161_3 C161_4 C161_5))⟩
theorem FE161 (args : List V) (σ : H) : runX E D W N A161 args σ = F161 E D W N args σ := by
 unfold F161
 simp only [← JE161_0]
 kernel_rfl
def Fin162 (E : List (Nat × Blk)) : St → Ans := fun s => resK E s [(.tmp 2)] fun l => some (oneV l, s.σ)
def C162_0 : XC := (.z (.q 2 0<|
.nil)
 (.seq (.z (.m 3 0<|
.b 4 .eql .ptr (.t 3) (.con V.nilp)<|
.nil)
 (.cond (.tmp 4) (.z (.q 2 0<|
.nil)
 .ret)
 .skip))
 (.z (.m 5 0<|
.n 6 5<|
.f 7 1 6<|
.l 8 .i 7<|
.m 2 8<|
.nil)
 .ret)))
def T162_0 (E : List (Nat × Blk)) (D : Den) (W : DrawFn) (a : V) (σ : H) : Ans :=
 eqK .ptr a V.nilp fun c1 =>
 condK c1 (
 some ((V.int .i64 (Int.ofNat 0)), σ)) (
 rtPtr a fun b2 o3 =>
 ldK E σ b2 (Nat.add o3 1) fun u4 =>
 rtInt .i64 u4 fun x5 =>
 some ((V.int .i64 x5), σ))
def S162_0 (a : V) (σ : H) : St := ⟨[(0, a)], [], [], σ⟩
theorem P162_0 (a : V) (σ : H) :
 denC E D W N (C162_0 ) (S162_0 a σ) (Fin162 E) nX (Fin162 E) =
 T162_0 E D W  a σ := by kernel_rfl
def J162_0 (E : List (Nat × Blk)) (D : Den) (W : DrawFn) (N : Nat) := T162_0 E D W
theorem JE162_0 (a : V) (σ : H) :
 denC E D W N C162_0 (S162_0 a σ) (Fin162 E) nX (Fin162 E) = J162_0 E D W N a σ := by
 refine (P162_0 E D W N   a σ).trans ?_
 kernel_rfl
def F162 (args : List V) (σ : H) : Ans :=
 rtCons args fun x1 l2 =>
 rtNil l2 (
 J162_0 E D W N x1 σ)
def A162 : XFn := ⟨9, [.any], [(.tmp 2)], C162_0⟩
theorem FE162 (args : List V) (σ : H) : runX E D W N A162 args σ = F162 E D W N args σ := by
 unfold F162
 simp only [← JE162_0]
 kernel_rfl
def q163a : List (Nat × XTy) := [(0, .ptr), (1, (.int .u32)), (6, .i)]
def Fin163 (E : List (Nat × Blk)) : St → Ans := fun s => resK E s [] fun l => some (oneV l, s.σ)
def C163_0 (cc1 : XC) : XC := (.z (.m 7 2<|
.p 8 [7] (.min (.t 7) [(.i 32)])<|
.p 9 [8] (.max (.i 0) [(.t 8)])<|
.m 2 9<|
.nil)
 (.z (.m 10 2<|
.b 11 .sub .none (.t 10) (.i 1)<|
.m 6 11<|
.nil)
 (.block 0 (.loop q163a [] [] cc1))))
def T163_0 (E : List (Nat × Blk)) (D : Den) (W : DrawFn) (K1 : Nat → Nat → Int → Int → H → Ans) (a b : Nat) (c d : Int) (σ : H) : Ans :=
 K1 a b c (subF .i64 (maxF (Int.ofNat 0) (minF d (Int.ofNat 32))) (Int.ofNat 1)) σ
def C163_1 : XC := (.seq (.z (.m 12 6<|
.b 13 .geq .none (.t 12) (.i 0)<|
.nil)
 (.cond (.tmp 13) .skip
 y23))
 (.seq (.block 1 (.ops (.m 16 0<|
.m 17 0<|
.n 18 17<|
.f 19 0 18<|
.l 20 .any 19<|
.m 21 1<|
.m 22 6<|
.P 23 (.conv (.toInt .u64) (.t 22))<|
.b 24 .shr .none (.t 21) (.t 23)<|
.b 25 .and .none (.t 24) (.con (V.int .u32 (Int.ofNat 1)))<|
.P 26 (.conv (.toInt .u8) (.t 25))<|
.p 27 [26] (.buildSlice 5 1 [y34] [(0, 1, (.t 26))])<|
.O 28 .one (.append 5 1 1 (.t 20) (.t 27))<|
.n 29 16<|
.f 30 0 29<|
.w 1 30 28<|
.nil)))
 (.ops (.m 14 6<|
.b 15 .sub .none (.t 14) (.i 1)<|
.m 6 15<|
.nil))))
def T163_1 (E : List (Nat × Blk)) (D : Den) (W : DrawFn) (R1 : Nat → Nat → Int → Int → H → Ans) (a b : Nat) (c d : Int) (σ : H) : Ans :=
 condK (leF (Int.ofNat 0) d) (
 ldK E σ a b fun u1 =>
 nnK (wrapF .u64 d) fun n2 =>
 let s3 := newB σ (.cells [(V.int .u8 (wrapF .u8 (andF .u32 (shrF .u32 c n2) (Int.ofNat 1))))]);
 appK E 1 1 u1 (V.sl (H.next σ) 0 1 (.ex 1)) s3 fun u4 s5 =>
 rtOne u4 (
 stK 1 a b u4 s5 fun s6 =>
 R1 a b c (subF .i64 d (Int.ofNat 1)) s6)) (
 some ((V.tup []), σ))
def S163_0 (a b : Nat) (c d : Int) (σ : H) : St := ⟨[(0, (V.ptr a b)), (1, (V.int .u32 c)), (2, (V.int .i64 d))], [], [], σ⟩
def S163_1 (a b : Nat) (c d : Int) (σ : H) : St := ⟨[(0, (V.ptr a b)), (1, (V.int .u32 c)), (6, (V.int .i64 d))], [], [], σ⟩
theorem P163_0 (cc1 : XC) (a b : Nat) (c d : Int) (σ : H) :
 denC E D W N (C163_0 cc1) (S163_0 a b c d σ) (Fin163 E) nX (Fin163 E) =
 T163_0 E D W (fun a b c e σ => iterK (fun rec s' => denC E D W N cc1 s' (kX q163a [] [] rec) (blkK 0 (Fin163 E) nX) (Fin163 E)) N (S163_1 a b c e σ)) a b c d σ := by kernel_rfl
theorem P163_1 (li1 : St → Ans) (a b : Nat) (c d : Int) (σ : H) :
 denC E D W N (C163_1 ) (S163_1 a b c d σ) (kX q163a [] [] li1) (blkK 0 (Fin163 E) nX) (Fin163 E) =
 T163_1 E D W (fun a b c d σ => li1 (S163_1 a b c d σ)) a b c d σ := by kernel_rfl
def L163_1 (E : List (Nat × Blk)) (D : Den) (W : DrawFn) (N : Nat) (n : Nat) : Nat → Nat → Int → Int → H → Ans :=
 Nat.rec (fun _ _ _ _ _ => none) (fun _ ih => T163_1 E D W ih) n
theorem LE163_1 (n : Nat) : ∀ (a b : Nat) (c d : Int) (σ : H),
 iterK (fun rec s' => denC E D W N C163_1 s' (kX q163a [] [] rec) (blkK 0 (Fin163 E) nX) (Fin163 E)) n (S163_1 a b c d σ) = L163_1 E D W N n a b c d σ := by
 induction n with
 | zero => intro a b c d σ; rfl
 | succ n ihn =>
  intro a b c d σ
  rw [iterK_succ]
  refine (P163_1 E D W N  (iterK (fun rec s' => denC E D W N C163_1 s' (kX q163a [] [] rec) (blkK 0 (Fin163 E) nX) (Fin163 E)) n) a b c d σ).trans ?_
  simp only [ihn]
  kernel_rfl
def J163_0 := T163_0 E D W (L163_1 E D W N N)
theorem JE163_0 (a b : Nat) (c d : Int) (σ : H) :
 denC E D W N (C163_0 C163_1) (S163_0 a b c d σ) (Fin163 E) nX (Fin163 E) = J163_0 E D W N a b c d σ := by
 refine (P163_0 E D W N C163_1  a b c d σ).trans ?_
 simp only [LE163_1]
 kernel_rfl
def F163 (args : List V) (σ : H) : Ans :=
 rtCons args fun x1 l2 =>
 rtPtr x1 fun b3 o4 =>
 xcI .u32 l2 fun x7 l6 =>
 xcI .i64 l6 fun x10 l9 =>
 rtNil l9 (
 J163_0 E D W N b3 o4 x7 x10 σ)
def A163 : XFn := ⟨31, [.ptr, (.int .u32), .i], [], (C163_0 C163_1)⟩
theorem FE163 (args : List V) (σ : H) : runX E D W N A163 args σ = F163 E D W N args σ := by
 unfold F163
 simp only [← JE163_0]
 kernel_rfl
def Fin182 (E : List (Nat × Blk)) : St → Ans := fun s => resK E s [(.tmp 2)] fun l => some (oneV l, s.σ)
def C182_0 : XC := (.z (.q 2 0<|
.nil)
 (.z (.m 3 0<|
.p 4 [3] (.min (.t 3) [(.i 64)])<|
.p 5 [4] (.max (.i 0) [(.t 4)])<|
.m 2 5<|
.nil)
 .ret))
def T182_0 (E : List (Nat × Blk)) (D : Den) (W : DrawFn) (a : Int) (σ : H) : Ans :=
 some ((V.int .i64 (maxF (Int.ofNat 0) (minF a (Int.ofNat 64)))), σ)
def S182_0 (a : Int) (σ : H) : St := ⟨[(0, (V.int .i64 a))], [], [], σ⟩
theorem P182_0 (a : Int) (σ : H) :
 denC E D W N (C182_0 ) (S182_0 a σ) (Fin182 E) nX (Fin182 E) =
 T182_0 E D W  a σ := by kernel_rfl
def J182_0 (E : List (Nat × Blk)) (D : Den) (W : DrawFn) (N : Nat) := T182_0 E D W
theorem JE182_0 (a : Int) (σ : H) :
 denC E D W N C182_0 (S182_0 a σ) (Fin182 E) nX (Fin182 E) = J182_0 E D W N a σ := by
 refine (P182_0 E D W N   a σ).trans ?_
 kernel_rfl
def F182 (args : List V) (σ : H) : Ans :=
 xcI .i64 args fun x3 l2 =>
 rtNil l2 (
 J182_0 E D W N x3 σ)
def A182 : XFn := ⟨6, [.i], [(.tmp 2)], C182_0⟩
theorem FE182 (args : List V) (σ : H) : runX E D W N A182 args σ = F182 E D W N args σ := by
 unfold F182
 simp only [← JE182_0]
 kernel_rfl
def C205_0 : XC := (.z (.c 4 y34<|
.nil)
 (.seq (.z (.m 5 1<|
.b 6 .lss .none (.t 5) (.i 0)<|
.m 7 6<|
.gO 7 false (.p 8 [1, 7] y17<|
.p 9 [0, 7] y16<|
.p 10 [9, 7] (.len true (.t 9))<|
.p 11 [8, 10, 7] (.bin .geq .none (.t 8) (.t 10))<|
.nil) 12 7 11<|
.nil)
 (.cond (.tmp 12) (.z (.c 4 y34<|
.nil)
 .ret)
 .skip))
 (.z (.m 13 0<|
.m 14 1<|
.P 15 (.idxStr (.t 13) (.t 14))<|
.m 4 15<|
.nil)
 .ret)))
def A205 : XFn := ⟨16, [.str, .i], [(.tmp 4)], C205_0⟩
def C206_0 : XC := (.z (.c 2 y3<|
.nil)
 (.z (.m 3 0<|
.b 4 .geq .none (.t 3) (.con (V.int .u8 (Int.ofNat 97)))<|
.m 5 4<|
.gA 5 true (.p 6 [0, 5] y16<|
.p 7 [6, 5] (.bin .leq .none (.t 6) (.con (V.int .u8 (Int.ofNat 122))))<|
.nil) 8 5 7<|
.m 9 8<|
.gO 9 false (.p 10 [0, 9] y16<|
.p 11 [10, 9] (.bin .geq .none (.t 10) (.con (V.int .u8 (Int.ofNat 65))))<|
.p 12 [11, 9] (.mov (.t 11))<|
.grp 12 true (.p 13 [0, 12] y16<|
.p 14 [13, 12] (.bin .leq .none (.t 13) (.con (V.int .u8 (Int.ofNat 90))))<|
.nil) 15 [12, 14, 9] (.t 12) (.t 14) y33<|
.nil) 16 9 15<|
.m 2 16<|
.nil)
 .ret))
def A206 : XFn := ⟨17, [(.int .u8)], [(.tmp 2)], C206_0⟩
def C207_0 (cc1 : XC) (cc2 : XC) : XC := (.z (.q 4 0<|
.nil)
 (.z (.m 6 1<|
.m 5 6<|
.nil)
 (.seq (.block 0 (.loop [(0, .str), (1, .i), (5, .i)] [] [] cc2))
 (.keep [(0, .str), (1, .i), (5, .i)] [] [] cc1))))
def C207_1 : XC := (.seq (.z (.m 38 0<|
.m 39 1<|
.b 40 .sub .none (.t 39) (.i 1)<|
.P 41 (.idxStr (.t 38) (.t 40))<|
.b 42 .eql .none (.t 41) y18<|
.m 43 42<|
.gO 43 false (.p 44 [1, 43] y17<|
.p 45 [5, 43] (.mov (.t 5))<|
.p 46 [44, 45, 43] (.bin .sub .none (.t 44) (.t 45))<|
.p 47 [46, 43] (.bin .gtr .none (.t 46) (.i 60))<|
.nil) 48 43 47<|
.nil)
 (.cond (.tmp 48) (.z (.c 4 y20<|
.nil)
 .ret)
 .skip))
 (.z (.m 49 1<|
.m 4 49<|
.nil)
 .ret))
def C207_2 : XC := (.seq (.z (.m 7 1<|
.m 8 0<|
.P 9 (.len true (.t 8))<|
.b 10 .lss .none (.t 7) (.t 9)<|
.m 11 10<|
.gA 11 true (.p 12 [0, 11] y16<|
.p 13 [1, 11] y17<|
.p 14 [12, 13, 11] (.idxStr (.t 12) (.t 13))<|
.op (some 15) .bool [14, 11] (.call 206 [(.t 14)])<|
.p 16 [15, 11] (.mov (.t 15))<|
.grp 16 false (.p 17 [0, 16] y16<|
.p 18 [1, 16] y17<|
.p 19 [17, 18, 16] (.idxStr (.t 17) (.t 18))<|
.op (some 20) .bool [19, 16] (.call 209 [(.t 19)])<|
.nil) 21 [16, 20, 11] (.t 16) y12 (.t 20)<|
.p 22 [21, 11] (.mov (.t 21))<|
.grp 22 false (.p 23 [0, 22] y16<|
.p 24 [1, 22] y17<|
.p 25 [23, 24, 22] (.idxStr (.t 23) (.t 24))<|
.p 26 [25, 22] (.bin .eql .none (.t 25) y18)<|
.p 27 [26, 22] (.mov (.t 26))<|
.grp 27 true (.p 28 [0, 27] y16<|
.p 29 [1, 27] y17<|
.p 30 [29, 27] (.bin .add .none (.t 29) (.i 1))<|
.op (some 31) (.int .u8) [28, 30, 27] (.call 205 [(.t 28), (.t 30)])<|
.p 32 [31, 27] (.bin .neq .none (.t 31) y18)<|
.nil) 33 [27, 32, 22] (.t 27) (.t 32) y33<|
.nil) 34 [22, 33, 11] (.t 22) y12 (.t 33)<|
.nil) 35 11 34<|
.nil)
 (.cond (.tmp 35) .skip
 y23))
 (.block 1 (.ops (.m 36 1<|
.b 37 .add .none (.t 36) (.i 1)<|
.m 1 37<|
.nil))))
def A207 : XFn := ⟨50, [.str, .i], [(.tmp 4)], (C207_0 C207_1 C207_2)⟩
def C208_0 : XC := (.z (.c 2 y3<|
.nil)
 (.z (.k 3 .one 274 []<|
.m 4 0<|
.k 5 .bool 123 [(.t 3), (.t 4)]<|
.m 2 5<|
.nil)
 .ret))
def A208 : XFn := ⟨6, [.str], [(.tmp 2)], C208_0⟩
def C209_0 : XC := (.z (.c 2 y3<|
.nil)
 (.z (.m 3 0<|
.b 4 .geq .none (.t 3) y29<|
.m 5 4<|
.gA 5 true (.p 6 [0, 5] y16<|
.p 7 [6, 5] (.bin .leq .none (.t 6) (.con (V.int .u8 (Int.ofNat 57))))<|
.nil) 8 5 7<|
.m 2 8<|
.nil)
 .ret))
def A209 : XFn := ⟨9, [(.int .u8)], [(.tmp 2)], C209_0⟩
end
noncomputable section
variable (E : List (Nat × Blk)) (D : Den) (W : DrawFn) (N : Nat)
def C210_0 (cc1 : XC) : XC := (.z (.q 4 0<|
.nil)
 (.z (.m 9 0<|
.m 10 1<|
.P 11 (.idxStr (.t 9) (.t 10))<|
.b 12 .eql .none (.t 11) y18<|
.m 5 12<|
.nil)
 (.seq (.z (.m 13 5<|
.nil)
 (.cond (.tmp 13) (.ops (.m 14 1<|
.b 15 .add .none (.t 14) (.i 1)<|
.m 1 15<|
.nil))
 .skip))
 (.keep [(0, .str), (1, .i), (5, .bool)] [] [] cc1))))
def C210_1 (cc2 : XC) (cc3 : XC) : XC := (.z (.m 16 1<|
.m 6 16<|
.nil)
 (.z (.c 7 y22<|
.nil)
 (.seq (.block 0 (.loop [(0, .str), (1, .i), (5, .bool), (6, .i), (7, (.int .u64))] [] [] cc3))
 (.keep [(0, .str), (1, .i), (5, .bool), (6, .i), (7, (.int .u64))] [] [] cc2))))
def C210_2 : XC := (.z (.m 41 1<|
.m 42 6<|
.b 43 .sub .none (.t 41) (.t 42)<|
.m 8 43<|
.nil)
 (.seq (.z (.m 44 8<|
.b 45 .lss .none (.t 44) (.i 1)<|
.m 46 45<|
.gO 46 false (.p 47 [8, 46] y30<|
.p 48 [47, 46] (.bin .gtr .none (.t 47) (.i 19))<|
.nil) 49 46 48<|
.m 50 49<|
.gO 50 false (.p 51 [8, 50] y30<|
.p 52 [51, 50] (.bin .gtr .none (.t 51) (.i 1))<|
.p 53 [52, 50] (.mov (.t 52))<|
.grp 53 true (.p 54 [0, 53] y16<|
.p 55 [6, 53] (.mov (.t 6))<|
.p 56 [54, 55, 53] (.idxStr (.t 54) (.t 55))<|
.p 57 [56, 53] (.bin .eql .none (.t 56) y29)<|
.nil) 58 [53, 57, 50] (.t 53) (.t 57) y33<|
.nil) 59 50 58<|
.m 60 59<|
.gO 60 false (.p 61 [5, 60] (.mov (.t 5))<|
.p 62 [61, 60] (.mov (.t 61))<|
.grp 62 true (.p 63 [0, 62] y16<|
.p 64 [6, 62] (.mov (.t 6))<|
.p 65 [63, 64, 62] (.idxStr (.t 63) (.t 64))<|
.p 66 [65, 62] (.bin .eql .none (.t 65) y29)<|
.nil) 67 [62, 66, 60] (.t 62) (.t 66) y33<|
.nil) 68 60 67<|
.m 69 68<|
.gO 69 false (.p 70 [0, 69] y16<|
.p 71 [1, 69] y17<|
.op (some 72) (.int .u8) [70, 71, 69] (.call 205 [(.t 70), (.t 71)])<|
.op (some 73) .bool [72, 69] (.call 206 [(.t 72)])<|
.nil) 74 69 73<|
.m 75 74<|
.gO 75 false (.p 76 [7, 75] (.mov (.t 7))<|
.p 77 [76, 75] (.bin .gtr .none (.t 76) (.con (V.int .u64 (Int.ofNat 9223372036854775808))))<|
.nil) 78 75 77<|
.m 79 78<|
.gO 79 false (.p 80 [5, 79] (.mov (.t 5))<|
.p 81 [80, 79] (.un .not (.t 80))<|
.p 82 [81, 79] (.mov (.t 81))<|
.grp 82 true (.p 83 [7, 82] (.mov (.t 7))<|
.p 84 [83, 82] (.bin .eql .none (.t 83) (.con (V.int .u64 (Int.ofNat 9223372036854775808))))<|
.nil) 85 [82, 84, 79] (.t 82) (.t 84) y33<|
.nil) 86 79 85<|
.nil)
 (.cond (.tmp 86) (.z (.c 4 y20<|
.nil)
 .ret)
 .skip))
 (.z (.m 87 1<|
.m 4 87<|
.nil)
 .ret)))
def C210_3 (cc4 : XC) : XC := (.seq (.z (.m 17 1<|
.m 18 0<|
.P 19 (.len true (.t 18))<|
.b 20 .lss .none (.t 17) (.t 19)<|
.m 21 20<|
.gA 21 true (.p 22 [0, 21] y16<|
.p 23 [1, 21] y17<|
.p 24 [22, 23, 21] (.idxStr (.t 22) (.t 23))<|
.op (some 25) .bool [24, 21] (.call 209 [(.t 24)])<|
.nil) 26 21 25<|
.nil)
 (.cond (.tmp 26) .skip
 y23))
 (.block 1 (.seq (.z (.m 27 1<|
.m 28 6<|
.b 29 .sub .none (.t 27) (.t 28)<|
.b 30 .lss .none (.t 29) (.i 19)<|
.nil)
 (.cond (.tmp 30) (.ops (.m 31 7<|
.b 32 .mul .none (.con (V.int .u64 (Int.ofNat 10))) (.t 31)<|
.m 33 0<|
.m 34 1<|
.P 35 (.idxStr (.t 33) (.t 34))<|
.b 36 .sub .none (.t 35) y29<|
.P 37 (.conv (.toInt .u64) (.t 36))<|
.b 38 .add .none (.t 32) (.t 37)<|
.m 7 38<|
.nil))
 .skip))
 (.keep [(0, .str), (1, .i), (5, .bool), (6, .i), (7, (.int .u64))] [] [] cc4))))
def C210_4 : XC := (.ops (.m 39 1<|
.b 40 .add .none (.t 39) (.i 1)<|
.m 1 40<|
.nil))
def A210 : XFn := ⟨88, [.str, .i], [(.tmp 4)], (C210_0 (C210_1 C210_2 (C210_3 C210_4)))⟩
def C213_0 (cc1 : XC) (cc2 : XC) : XC := (.z (.q 4 0<|
.nil)
 (.z (.m 9 0<|
.m 10 1<|
.p 11 [9, 10] (.sliceStr (.t 9) (some (.t 10)) none)<|
.m 5 11<|
.nil)
 (.z (.p 12 [] (.buildSlice 9 13 [y6, y6, y6, y6, y6, y6, y6, y6, y6, y6, y6, y6, y6] [(0, 1, (.con (V.str ⟨3, 4012602⟩))), (1, 1, (.con (V.str ⟨3, 3026478⟩))), (2, 1, (.con (V.str ⟨2, 11822⟩))), (3, 1, (.con (V.str ⟨2, 23387⟩))), (4, 1, (.con (V.str ⟨2, 23901⟩))), (5, 1, y40), (6, 1, (.con (V.str ⟨1, 125⟩))), (7, 1, (.con (V.str ⟨1, 91⟩))), (8, 1, (.con (V.str ⟨1, 93⟩))), (9, 1, (.con (V.str ⟨1, 40⟩))), (10, 1, (.con (V.str ⟨1, 41⟩))), (11, 1, (.con (V.str ⟨1, 44⟩))), (12, 1, (.con (V.str ⟨1, 58⟩)))])<|
.m 6 12<|
.nil)
 (.seq (.z (.q 7 0<|
.nil)
 (.block 0 (.loop [(5, .str), (6, .any), (7, .i)] [] [] cc2)))
 (.keep [] [] [] cc1)))))
def C213_1 : XC := (.z (.q 4 0<|
.nil)
 .ret)
def C213_2 : XC := (.seq (.z (.m 13 7<|
.m 14 6<|
.u 15 14<|
.b 16 .lss .none (.t 13) (.t 15)<|
.nil)
 (.cond (.tmp 16) .skip
 y23))
 (.seq (.block 1 (.z (.m 19 6<|
.m 20 7<|
.s 21 1 19 20<|
.l 22 .str 21<|
.P 23 (.len true (.t 22))<|
.m 8 23<|
.nil)
 (.seq (.draw (.m 24 5<|
.P 25 (.len true (.t 24))<|
.m 26 8<|
.b 27 .geq .none (.t 25) (.t 26)<|
.m 28 27<|
.gA 28 true (.p 29 [5, 28] (.mov (.t 5))<|
.p 30 [8, 28] y30<|
.p 31 [29, 30, 28] (.sliceStr (.t 29) none (some (.t 30)))<|
.p 32 [6, 28] (.mov (.t 6))<|
.p 33 [7, 28] (.mov (.t 7))<|
.p 34 [32, 33, 28] (.iaddrS 1 (.t 32) (.t 33))<|
.op (some 35) .str [34, 28] (.load none (.t 34))<|
.p 36 [31, 35, 28] (.bin .eql .none (.t 31) (.t 35))<|
.nil) 37 28 36<|
.nil) [0, 1, 0, 7, 15, 31, 31, 127, 31, 31, 799, 1823, 4095, 8191])
 (.cond (.tmp 37) (.z (.m 38 8<|
.m 4 38<|
.nil)
 .ret)
 .skip))))
 (.ops (.m 17 7<|
.b 18 .add .none (.t 17) (.i 1)<|
.m 7 18<|
.nil))))
def A213 : XFn := ⟨39, [.str, .i], [(.tmp 4)], (C213_0 C213_1 C213_2)⟩
def C214_0 (cc1 : XC) : XC := (.z (.q 2 0<|
.nil)
 (.z (.m 6 0<|
.P 7 (.idxStr (.t 6) (.i 0))<|
.b 8 .eql .none (.t 7) y18<|
.m 3 8<|
.nil)
 (.seq (.z (.m 9 3<|
.nil)
 (.cond (.tmp 9) (.ops (.m 10 0<|
.p 11 [10] (.sliceStr (.t 10) (some (.i 1)) none)<|
.m 0 11<|
.nil))
 .skip))
 (.keep [(0, .str), (3, .bool)] [] [] cc1))))
def C214_1 (cc2 : XC) (cc3 : XC) : XC := (.z (.c 4 y22<|
.nil)
 (.seq (.z (.q 5 0<|
.nil)
 (.block 0 (.loop [(0, .str), (3, .bool), (4, (.int .u64)), (5, .i)] [] [] cc3)))
 (.keep [(3, .bool), (4, (.int .u64))] [] [] cc2)))
def C214_2 : XC := (.seq (.z (.m 26 3<|
.nil)
 (.cond (.tmp 26) (.z (.m 27 4<|
.b 28 .sub .none (.t 27) (.con y31)<|
.P 29 (.conv (.toInt .i64) (.t 28))<|
.P 30 (.un .neg (.t 29))<|
.b 31 .sub .none (.t 30) (.i 1)<|
.m 2 31<|
.nil)
 .ret)
 .skip))
 (.z (.m 32 4<|
.P 33 (.conv (.toInt .i64) (.t 32))<|
.m 2 33<|
.nil)
 .ret))
def C214_3 : XC := (.seq (.z (.m 12 5<|
.m 13 0<|
.P 14 (.len true (.t 13))<|
.b 15 .lss .none (.t 12) (.t 14)<|
.nil)
 (.cond (.tmp 15) .skip
 y23))
 (.seq (.block 1 (.ops (.m 18 4<|
.b 19 .mul .none (.con (V.int .u64 (Int.ofNat 10))) (.t 18)<|
.m 20 0<|
.m 21 5<|
.P 22 (.idxStr (.t 20) (.t 21))<|
.b 23 .sub .none (.t 22) y29<|
.P 24 (.conv (.toInt .u64) (.t 23))<|
.b 25 .add .none (.t 19) (.t 24)<|
.m 4 25<|
.nil)))
 (.ops (.m 16 5<|
.b 17 .add .none (.t 16) (.i 1)<|
.m 5 17<|
.nil))))
def A214 : XFn := ⟨34, [.str], [(.tmp 2)], (C214_0 (C214_1 C214_2 C214_3))⟩
def C216_0 (cc1 : XC) : XC := (.z (.pal 2 [] 141 [y3, y3, y3, y3, y0, y0]<|
.nil)
 (.z (.op (some 4) y4 [] (.build [y3, y3, y3, y3, y0, y0] [(0, 1, y12)])<|
.pal 3 [] 141 [y3, y3, y3, y3, y0, y0]<|
.op none y4 [3, 4] (.store 6 (.t 3) (.t 4))<|
.nil)
 (.seq (.z (.m 5 0<|
.k 6 .bool 59 [(.t 5), (.con (V.str ⟨3, 5130573⟩))]<|
.P 7 (.un .not (.t 6))<|
.nil)
 (.cond (.tmp 7) (.ops (.m 8 0<|
.k 9 .i 121 [(.t 8)]<|
.f 10 1 3<|
.op none .any [10] (.store 1 (.t 10) y12)<|
.f 11 4 3<|
.w 1 11 9<|
.nil))
 .skip))
 (.keep [(0, .any)] [2, 3] [(2, y25), (3, y25)] cc1))))
def C216_1 (cc2 : XC) : XC := (.seq (.block 0 (.z (.m 13 0<|
.k 14 .bool 59 [(.t 13), (.con (V.str ⟨2, 11822⟩))]<|
.m 12 14<|
.nil)
 (.cond (.tmp 12) (.z (.m 15 0<|
.k 16 .bool 59 [(.t 15), (.con (V.str ⟨3, 5783885⟩))]<|
.P 17 (.un .not (.t 16))<|
.nil)
 (.cond (.tmp 17) (.ops (.m 18 0<|
.k 19 .i 121 [(.t 18)]<|
.f 20 2 3<|
.op none .any [20] (.store 1 (.t 20) y12)<|
.f 21 5 3<|
.w 1 21 19<|
.nil))
 .skip))
 (.z (.f 23 1 3<|
.l 24 .bool 23<|
.m 22 24<|
.nil)
 (.cond (.tmp 22) (.ops (.f 25 4 3<|
.l 26 .i 25<|
.f 27 2 3<|
.op none .any [27] (.store 1 (.t 27) y12)<|
.f 28 5 3<|
.w 1 28 26<|
.nil))
 .skip)))))
 (.keep [(0, .any)] [2, 3] [(2, y25), (3, y25)] cc2))
def C216_2 (cc3 : XC) : XC := (.seq (.z (.m 29 0<|
.k 30 .bool 59 [(.t 29), (.con (V.str ⟨1, 44⟩))]<|
.nil)
 (.cond (.tmp 30) (.z (.m 31 0<|
.k 32 y10 58 [(.t 31), (.con (V.str ⟨3, 3026478⟩))]<|
.nil)
 (.ops (.f 33 3 3<|
.op none .any [33] (.store 1 (.t 33) y12)<|
.nil)))
 .skip))
 (.keep [] [2, 3] [(2, y25), (3, y25)] cc3))
def C216_3 : XC := (.z (.O 34 y4 (.load (some 6) (.t 3))<|
.op none y4 [2, 34] (.store 6 (.t 2) (.t 34))<|
.nil)
 .ret)
def A216 : XFn := ⟨35, [.any], [(.cell 2 (some 6))], (C216_0 (C216_1 (C216_2 C216_3)))⟩
def C218_0 (cc1 : XC) (cc2 : XC) : XC := (.seq (.z (.m 7 0<|
.k 8 .bool 59 [(.t 7), (.con (V.str ⟨1, 125⟩))]<|
.nil)
 (.cond (.tmp 8) .ret
 .skip))
 (.z (.q 6 0<|
.nil)
 (.seq (.block 0 (.loop [(0, .ptr), (1, .ptr), (2, .i), (6, .i)] [] [] cc2))
 (.keep [(0, .ptr), (1, .ptr)] [] [] cc1))))
def C218_1 : XC := (.z (.m 68 0<|
.k 69 y10 58 [(.t 68), (.con (V.str ⟨1, 125⟩))]<|
.nil)
 (.z (.m 70 1<|
.n 71 70<|
.f 72 14 71<|
.l 73 .bool 72<|
.P 74 (.un .not (.t 73))<|
.nil)
 (.cond (.tmp 74) (.ops (.m 75 1<|
.m 76 1<|
.n 77 76<|
.f 78 12 77<|
.l 79 .any 78<|
.u 80 79<|
.n 81 75<|
.f 82 13 81<|
.w 1 82 80<|
.nil))
 .skip)))
def C218_2 (cc3 : XC) (cc4 : XC) (cc5 : XC) : XC := (.seq (.z (.m 9 0<|
.n 10 9<|
.f 11 7 10<|
.l 12 .i 11<|
.b 13 .eql .none (.t 12) (.i 0)<|
.nil)
 (.cond (.tmp 13) .skip
 y23))
 (.block 1 (.seq (.block 2 (.z (.m 19 1<|
.n 20 19<|
.f 21 14 20<|
.l 22 .bool 21<|
.P 23 (.un .not (.t 22))<|
.m 24 23<|
.gA 24 true (.p 25 [0, 24] y16<|
.op (some 26) .bool [25, 24] (.call 59 [(.t 25), (.con (V.str ⟨3, 3026478⟩))])<|
.nil) 27 24 26<|
.m 18 27<|
.nil)
 (.cond (.tmp 18) (.ops (.m 28 1<|
.m 29 1<|
.m 30 1<|
.n 31 30<|
.f 32 12 31<|
.l 33 .any 32<|
.u 34 33<|
.n 35 28<|
.f 36 14 35<|
.op none .any [36] (.store 1 (.t 36) y12)<|
.n 37 29<|
.f 38 13 37<|
.w 1 38 34<|
.nil))
 (.z (.m 40 1<|
.n 41 40<|
.f 42 14 41<|
.l 43 .bool 42<|
.m 44 43<|
.gA 44 true (.p 45 [0, 44] y16<|
.op (some 46) .bool [45, 44] (.call 59 [(.t 45), (.con (V.str ⟨2, 23387⟩))])<|
.nil) 47 44 46<|
.m 39 47<|
.nil)
 (.cond (.tmp 39) (.z (.m 48 6<|
.b 49 .add .none (.t 48) (.i 1)<|
.m 6 49<|
.nil)
 (.seq (.block 3 (.loop [(0, .ptr), (1, .ptr), (2, .i), (6, .i)] [] [] cc5))
 (.keep [(0, .ptr), (1, .ptr), (2, .i), (6, .i)] [] [] cc4)))
 (.ops (.m 14 0<|
.m 15 1<|
.m 16 2<|
.k 17 y10 276 [(.t 14), (.t 15), (.t 16), (.i 0)]<|
.nil)))))))
 (.keep [(0, .ptr), (1, .ptr), (2, .i), (6, .i)] [] [] cc3))))
def C218_3 : XC := (.z (.m 65 0<|
.k 66 .bool 59 [(.t 65), (.con (V.str ⟨1, 44⟩))]<|
.P 67 (.un .not (.t 66))<|
.nil)
 (.cond (.tmp 67) y23
 .skip))
def C218_4 : XC := (.ops (.m 63 0<|
.k 64 y10 58 [(.t 63), (.con (V.str ⟨2, 23901⟩))]<|
.nil))
def C218_5 : XC := (.seq (.z (.m 50 0<|
.n 51 50<|
.f 52 7 51<|
.l 53 .i 52<|
.b 54 .eql .none (.t 53) (.i 0)<|
.nil)
 (.cond (.tmp 54) .skip
 (.exit 3)))
 (.block 4 (.z (.m 55 0<|
.m 56 1<|
.m 57 2<|
.m 58 6<|
.k 59 y10 276 [(.t 55), (.t 56), (.t 57), (.t 58)]<|
.nil)
 (.z (.m 60 0<|
.k 61 .bool 59 [(.t 60), (.con (V.str ⟨1, 44⟩))]<|
.P 62 (.un .not (.t 61))<|
.nil)
 (.cond (.tmp 62) (.exit 3)
 .skip)))))
def A218 : XFn := ⟨83, [.ptr, .ptr, .i], [], (C218_0 C218_1 (C218_2 C218_3 C218_4 C218_5))⟩
def C220_0 (cc1 : XC) (cc2 : XC) : XC := (.z (.pal 2 [] 253 [y0, y0]<|
.nil)
 (.seq (.z (.m 3 0<|
.nil)
 (.block 0 (.z (.b 5 .eql .none (.t 3) (.i 1)<|
.m 4 5<|
.nil)
 (.cond (.tmp 4) (.z (.op (some 6) y14 [] (.build [y0, y0] [(1, 1, (.i 1))])<|
.op none y14 [2, 6] (.store 2 (.t 2) (.t 6))<|
.nil)
 .ret)
 (.z (.b 8 .eql .none (.t 3) (.i 2)<|
.m 7 8<|
.nil)
 (.cond (.tmp 7) (.z (.op (some 9) y14 [] (.build [y0, y0] [(1, 1, (.i 2))])<|
.op none y14 [2, 9] (.store 2 (.t 2) (.t 9))<|
.nil)
 .ret)
 (.z (.b 11 .eql .none (.t 3) (.i 5)<|
.m 10 11<|
.nil)
 (.cond (.tmp 10) (.z (.op (some 12) y14 [] (.build [y0, y0] [(1, 1, (.i 4))])<|
.op none y14 [2, 12] (.store 2 (.t 2) (.t 12))<|
.nil)
 .ret)
 (.z (.b 14 .eql .none (.t 3) (.i 4)<|
.m 13 14<|
.nil)
 (.cond (.tmp 13) (.z (.op (some 15) y14 [] (.build [y0, y0] [(1, 1, (.i 5))])<|
.op none y14 [2, 15] (.store 2 (.t 2) (.t 15))<|
.nil)
 .ret)
 (.z (.b 17 .eql .none (.t 3) (.i 3)<|
.m 16 17<|
.nil)
 (.cond (.tmp 16) (.z (.op (some 18) y14 [] (.build [y0, y0] [(1, 1, (.i 10))])<|
.op none y14 [2, 18] (.store 2 (.t 2) (.t 18))<|
.nil)
 .ret)
 (.z (.b 20 .eql .none (.t 3) (.i 6)<|
.m 19 20<|
.nil)
 (.cond (.tmp 19) (.z (.op (some 21) y14 [] (.build [y0, y0] [(1, 1, (.i 12))])<|
.op none y14 [2, 21] (.store 2 (.t 2) (.t 21))<|
.nil)
 .ret)
 (.seq (.z (.b 23 .eql .none (.t 3) (.i 7)<|
.m 22 23<|
.nil)
 (.cond (.tmp 22) .skip
 (.ops (.b 24 .eql .none (.t 3) (.i 10)<|
.m 22 24<|
.nil))))
 (.keep [(3, .i), (22, .bool)] [2] [(2, [.i, .i])] cc2))))))))))))))))
 (.keep [] [2] [(2, [.i, .i])] cc1)))
def C220_1 : XC := (.z (.op (some 29) y14 [] (.build [y0, y0] [])<|
.op none y14 [2, 29] (.store 2 (.t 2) (.t 29))<|
.nil)
 .ret)
def C220_2 : XC := (.cond (.tmp 22) (.z (.op (some 25) y14 [] (.build [y0, y0] [(1, 1, (.i 16))])<|
.op none y14 [2, 25] (.store 2 (.t 2) (.t 25))<|
.nil)
 .ret)
 (.z (.b 27 .eql .none (.t 3) (.i 8)<|
.m 26 27<|
.nil)
 (.cond (.tmp 26) (.z (.op (some 28) y14 [] (.build [y0, y0] [(1, 1, (.i 17))])<|
.op none y14 [2, 28] (.store 2 (.t 2) (.t 28))<|
.nil)
 .ret)
 .skip)))
def A220 : XFn := ⟨30, [.i], [(.cell 2 (some 2))], (C220_0 C220_1 C220_2)⟩
def C221_0 : XC := (.z (.P 2 (.box 141 (.t 0))<|
.q 4 0<|
.nil)
 (.seq (.z (.f 5 0 2<|
.l 6 .bool 5<|
.P 7 (.un .not (.t 6))<|
.nil)
 (.cond (.tmp 7) (.z (.q 4 0<|
.nil)
 .ret)
 .skip))
 (.seq (.z (.f 8 1 2<|
.l 9 .bool 8<|
.m 10 9<|
.gA 10 true (.p 11 [2, 10] (.faddr 2 (.t 2))<|
.op (some 12) .bool [11, 10] (.load none (.t 11))<|
.nil) 13 10 12<|
.m 14 13<|
.gA 14 true (.p 15 [2, 14] (.faddr 4 (.t 2))<|
.op (some 16) .i [15, 14] (.load none (.t 15))<|
.p 17 [2, 14] (.faddr 5 (.t 2))<|
.op (some 18) .i [17, 14] (.load none (.t 17))<|
.p 19 [16, 18, 14] (.bin .gtr .none (.t 16) (.t 18))<|
.nil) 20 14 19<|
.nil)
 (.cond (.tmp 20) (.z (.q 4 11<|
.nil)
 .ret)
 .skip))
 (.seq (.z (.m 21 1<|
.m 22 21<|
.gA 22 true (.p 23 [2, 22] (.faddr 1 (.t 2))<|
.op (some 24) .bool [23, 22] (.load none (.t 23))<|
.p 25 [24, 22] (.un .not (.t 24))<|
.p 26 [25, 22] (.mov (.t 25))<|
.grp 26 false (.p 27 [2, 26] (.faddr 4 (.t 2))<|
.op (some 28) .i [27, 26] (.load none (.t 27))<|
.p 29 [28, 26] (.bin .lss .none (.t 28) (.i 0))<|
.nil) 30 [26, 29, 22] (.t 26) y12 (.t 29)<|
.p 31 [30, 22] (.mov (.t 30))<|
.grp 31 false (.p 32 [2, 31] (.faddr 4 (.t 2))<|
.op (some 33) .i [32, 31] (.load none (.t 32))<|
.p 34 [33, 31] (.bin .gtr .none (.t 33) (.i 70000))<|
.nil) 35 [31, 34, 22] (.t 31) y12 (.t 34)<|
.p 36 [35, 22] (.mov (.t 35))<|
.grp 36 false (.p 37 [2, 36] (.faddr 2 (.t 2))<|
.op (some 38) .bool [37, 36] (.load none (.t 37))<|
.p 39 [38, 36] (.mov (.t 38))<|
.grp 39 true (.p 40 [2, 39] (.faddr 5 (.t 2))<|
.op (some 41) .i [40, 39] (.load none (.t 40))<|
.p 42 [41, 39] (.bin .lss .none (.t 41) (.i 0))<|
.p 43 [42, 39] (.mov (.t 42))<|
.grp 43 false (.p 44 [2, 43] (.faddr 5 (.t 2))<|
.op (some 45) .i [44, 43] (.load none (.t 44))<|
.p 46 [45, 43] (.bin .gtr .none (.t 45) (.i 70000))<|
.nil) 47 [43, 46, 39] (.t 43) y12 (.t 46)<|
.nil) 48 [39, 47, 36] (.t 39) (.t 47) y33<|
.nil) 49 [36, 48, 22] (.t 36) y12 (.t 48)<|
.nil) 50 22 49<|
.nil)
 (.cond (.tmp 50) (.z (.q 4 11<|
.nil)
 .ret)
 .skip))
 (.z (.q 4 0<|
.nil)
 .ret)))))
def A221 : XFn := ⟨51, [y4, .bool], [(.tmp 4)], C221_0⟩
def G223_0 : List AOper := [⟨(some 130), .mov (.tmp 0), none⟩, ⟨(some 131), .faddr 1 (.tmp 13), none⟩, ⟨(some 132), .load none (.tmp 131), none⟩, ⟨(some 133), .mov (.tmp 12), none⟩, ⟨(some 134), .mov (.tmp 0), none⟩, ⟨(some 135), .faddr 1 (.tmp 13), none⟩, ⟨(some 136), .load none (.tmp 135), none⟩, ⟨(some 137), .call 128 [(.tmp 134), (.tmp 136)], none⟩, ⟨(some 138), .call 129 [(.tmp 130), (.tmp 132), (.tmp 133), (.tmp 137)], none⟩]
def H223_0 : List DP := [⟨0, [0]⟩, ⟨0, [13]⟩, ⟨2, [131]⟩, ⟨0, [12]⟩, ⟨0, [0]⟩, ⟨0, [13]⟩, ⟨32, [135]⟩, ⟨112, [134, 136]⟩, ⟨255, [130, 132, 133, 137]⟩]
def C223_0 (cc1 : XC) (cc2 : XC) : XC := (.z (.P 6 (.box 183 (.t 2))<|
.nil)
 (.z (.m 15 0<|
.n 16 15<|
.f 17 0 16<|
.f 18 1 17<|
.l 19 .i 18<|
.b 20 .neq .none (.t 19) (.i 2)<|
.m 8 20<|
.nil)
 (.seq (.z (.q 9 0<|
.nil)
 (.block 0 (.loop [(0, .ptr), (1, .i), (3, .i), (6, .ptr), (8, .bool), (9, .i)] [] [] cc2)))
 (.keep [(0, .ptr), (1, .i), (3, .i), (6, .ptr), (8, .bool)] [] [] cc1))))
def C223_1 (cc3 : XC) : XC := (.seq (.z (.f 47 0 6<|
.l 48 .i 47<|
.b 49 .eql .none (.t 48) (.i 9)<|
.m 50 49<|
.gA 50 true (.p 51 [6, 50] (.faddr 12 (.t 6))<|
.p 52 [51, 50] (.load none (.t 51))<|
.p 53 [52, 50] (.len false (.t 52))<|
.p 54 [53, 50] (.bin .eql .none (.t 53) (.i 0))<|
.nil) 55 50 54<|
.m 56 55<|
.gA 56 true (.p 57 [6, 56] (.faddr 14 (.t 6))<|
.op (some 58) .bool [57, 56] (.load none (.t 57))<|
.p 59 [58, 56] (.un .not (.t 58))<|
.nil) 60 56 59<|
.nil)
 (.cond (.tmp 60) (.ops (.m 61 0<|
.k 62 y10 219 [(.t 61), (.i 11)]<|
.nil))
 .skip))
 (.keep [(0, .ptr), (1, .i), (3, .i), (6, .ptr), (8, .bool)] [] [] cc3))
def C223_2 : XC := (.seq (.z (.m 21 9<|
.f 22 12 6<|
.l 23 .any 22<|
.u 24 23<|
.b 25 .lss .none (.t 21) (.t 24)<|
.nil)
 (.cond (.tmp 25) .skip
 y23))
 (.seq (.block 1 (.z (.f 28 12 6<|
.l 29 .any 28<|
.m 30 9<|
.s 31 11 29 30<|
.O 32 y9 (.load (some 11) (.t 31))<|
.pal 10 [] 200 [y6, y0, y3, y3, y0, y0, V.nils, V.nils, y0, V.nils, y0]<|
.op none y9 [10, 32] (.store 11 (.t 10) (.t 32))<|
.nil)
 (.draw (.m 33 8<|
.m 34 33<|
.gO 34 false (.p 35 [0, 34] y16<|
.p 36 [35, 34] (.nilck (.t 35))<|
.p 37 [36, 34] (.faddr 0 (.t 36))<|
.p 38 [37, 34] (.faddr 4 (.t 37))<|
.p 39 [38, 34] (.load none (.t 38))<|
.p 40 [10, 34] (.faddr 1 (.t 10))<|
.op (some 41) .i [40, 34] (.load none (.t 40))<|
.p 42 [39, 41, 34] (.iaddrS 16 (.t 39) (.t 41))<|
.p 43 [42, 34] (.faddr 2 (.t 42))<|
.p 44 [43, 34] (.faddr 0 (.t 43))<|
.op (some 45) .bool [44, 34] (.load none (.t 44))<|
.nil) 46 34 45<|
.m 8 46<|
.nil) [0, 1, 3, 7, 15, 31, 63, 3, 131, 511, 1023, 2047, 4095, 8191, 16383])))
 (.ops (.m 26 9<|
.b 27 .add .none (.t 26) (.i 1)<|
.m 9 27<|
.nil))))
def C223_3 (cc4 : XC) (cc5 : XC) : XC := (.z (.c 11 V.nils<|
.nil)
 (.seq (.z (.q 12 0<|
.nil)
 (.block 2 (.loop [(0, .ptr), (1, .i), (3, .i), (6, .ptr), (8, .bool), (11, .any), (12, .i)] [] [] cc5)))
 (.keep [(0, .ptr), (1, .i), (11, .any)] [] [] cc4)))
def C223_4 : XC := (.z (.m 143 0<|
.n 144 143<|
.f 145 6 144<|
.l 146 .i 145<|
.b 147 .eql .none (.t 146) (.i 0)<|
.nil)
 (.cond (.tmp 147) (.z (.m 148 0<|
.n 149 148<|
.f 150 5 149<|
.l 151 .any 150<|
.m 152 1<|
.m 153 11<|
.s 154 13 151 152<|
.f 155 9 154<|
.w 1 155 153<|
.nil)
 (.z (.m 156 0<|
.m 157 0<|
.n 158 157<|
.f 159 5 158<|
.l 160 .any 159<|
.m 161 1<|
.s 162 13 160 161<|
.O 163 y1 (.load (some 13) (.t 162))<|
.k 164 .bool 279 [(.t 156), (.t 163)]<|
.P 165 (.un .not (.t 164))<|
.nil)
 (.cond (.tmp 165) (.ops (.m 166 0<|
.k 167 y10 219 [(.t 166), (.i 12)]<|
.nil))
 .skip)))
 .skip))
def C223_5 (cc6 : XC) (cc7 : XC) (cc8 : XC) : XC := (.seq (.z (.m 63 12<|
.f 64 12 6<|
.l 65 .any 64<|
.u 66 65<|
.b 67 .lss .none (.t 63) (.t 66)<|
.m 68 67<|
.gA 68 true (.p 69 [0, 68] y16<|
.p 70 [69, 68] (.nilck (.t 69))<|
.p 71 [70, 68] (.faddr 6 (.t 70))<|
.op (some 72) .i [71, 68] (.load none (.t 71))<|
.p 73 [72, 68] (.bin .eql .none (.t 72) (.i 0))<|
.nil) 74 68 73<|
.nil)
 (.cond (.tmp 74) .skip
 (.exit 2)))
 (.seq (.block 3 (.z (.f 77 12 6<|
.l 78 .any 77<|
.m 79 12<|
.s 80 11 78 79<|
.O 81 y9 (.load (some 11) (.t 80))<|
.p 13 [] (.alloc 200 [y6, y0, y3, y3, y0, y0, V.nils, V.nils, y0, V.nils, y0])<|
.op none y9 [13, 81] (.store 11 (.t 13) (.t 81))<|
.nil)
 (.seq (.z (.q 14 0<|
.nil)
 (.block 4 (.loop [(0, .ptr), (1, .i), (3, .i), (6, .ptr), (8, .bool), (11, .any), (12, .i), (13, .ptr), (14, .i)] [] [] cc8)))
 (.keep [(0, .ptr), (1, .i), (3, .i), (6, .ptr), (8, .bool), (11, .any), (12, .i), (13, .ptr)] [] [] cc7))))
 (.keep [(0, .ptr), (1, .i), (3, .i), (6, .ptr), (8, .bool), (11, .any), (12, .i)] [] [] cc6)))
def C223_6 : XC := (.ops (.m 75 12<|
.b 76 .add .none (.t 75) (.i 1)<|
.m 12 76<|
.nil))
def C223_7 (cc10 : XC) : XC := (.z (.m 98 0<|
.f 99 1 13<|
.l 100 .i 99<|
.m 101 3<|
.b 102 .add .none (.t 101) (.i 1)<|
.k 103 .i 64 [(.t 98), (.t 100), (.t 102)]<|
.f 104 1 13<|
.w 1 104 103<|
.nil)
 (.seq (.z (.m 105 0<|
.n 106 105<|
.f 107 6 106<|
.l 108 .i 107<|
.b 109 .eql .none (.t 108) (.i 0)<|
.m 110 109<|
.gA 110 true (.p 111 [13, 110] (.faddr 3 (.t 13))<|
.op (some 112) .bool [111, 110] (.load none (.t 111))<|
.nil) 113 110 112<|
.nil)
 (.cond (.tmp 113) (.ops (.m 114 0<|
.f 115 1 13<|
.l 116 .i 115<|
.f 117 4 13<|
.O 118 y2 (.load (some 6) (.t 117))<|
.k 119 y2 278 [(.t 114), (.t 116), (.t 118)]<|
.f 120 4 13<|
.op none y2 [120, 119] (.store 6 (.t 120) (.t 119))<|
.nil))
 .skip))
 (.keep [(0, .ptr), (1, .i), (3, .i), (6, .ptr), (8, .bool), (11, .any), (12, .i), (13, .ptr)] [] [] cc10)))
def C223_8 (cc9 : XC) : XC := (.seq (.z (.m 82 14<|
.m 83 12<|
.b 84 .lss .none (.t 82) (.t 83)<|
.nil)
 (.cond (.tmp 84) .skip
 (.exit 4)))
 (.seq (.block 5 (.seq (.draw (.f 87 12 6<|
.l 88 .any 87<|
.m 89 14<|
.s 90 11 88 89<|
.f 91 0 90<|
.l 92 .str 91<|
.f 93 0 13<|
.l 94 .str 93<|
.b 95 .eql .none (.t 92) (.t 94)<|
.nil) [0, 1, 0, 7, 15, 31, 0, 64, 255])
 (.cond (.tmp 95) (.ops (.m 96 0<|
.k 97 y10 219 [(.t 96), (.i 8)]<|
.nil))
 .skip)))
 (.keep [(0, .ptr), (1, .i), (3, .i), (6, .ptr), (8, .bool), (11, .any), (12, .i), (13, .ptr), (14, .i)] [] [] cc9)))
def C223_9 : XC := (.ops (.m 85 14<|
.b 86 .add .none (.t 85) (.i 1)<|
.m 14 86<|
.nil))
def C223_10 (cc11 : XC) : XC := (.seq (.z (.m 121 0<|
.n 122 121<|
.f 123 6 122<|
.l 124 .i 123<|
.b 125 .eql .none (.t 124) (.i 0)<|
.m 126 125<|
.gA 126 true (.p 127 [8, 126] y30<|
.p 128 [127, 126] (.un .not (.t 127))<|
.nil) 129 126 128<|
.nil)
 (.cond (.tmp 129) (.keep [(0, .ptr), (1, .i), (3, .i), (6, .ptr), (8, .bool), (11, .any), (12, .i), (13, .ptr)] [] [] (.gdraw G223_0 H223_0 [(0, .ptr), (1, .i), (3, .i), (6, .ptr), (8, .bool), (11, .any), (12, .i), (13, .ptr)]))
 .skip))
 (.keep [(0, .ptr), (1, .i), (3, .i), (6, .ptr), (8, .bool), (11, .any), (12, .i), (13, .ptr)] [] [] cc11))
def C223_11 : XC := (.ops (.m 139 11<|
.O 140 y9 (.load (some 11) (.t 13))<|
.p 141 [140] (.buildSlice 200 1 [y6, y0, y3, y3, y0, y0, V.nils, V.nils, y0, V.nils, y0] [(0, 11, (.t 140))])<|
.O 142 .one (.append 200 11 136 (.t 139) (.t 141))<|
.m 11 142<|
.nil))
def A223 : XFn := ⟨168, [.ptr, .i, y5, .i], [], (C223_0 (C223_1 (C223_3 C223_4 (C223_5 C223_6 (C223_7 (C223_10 C223_11)) (C223_8 C223_9)))) C223_2)⟩
def C224_0 : XC := (.z (.c 6 V.nils<|
.q 7 0<|
.nil)
 (.seq (.z (.m 9 1<|
.b 10 .lss .none (.t 9) (.i 0)<|
.m 11 10<|
.gO 11 false (.p 12 [1, 11] y17<|
.p 13 [12, 11] (.bin .gtr .none (.t 12) (.i 268435456))<|
.nil) 14 11 13<|
.m 15 14<|
.gO 15 false (.p 16 [2, 15] (.mov (.t 2))<|
.p 17 [16, 15] (.bin .eql .none (.t 16) (.i 1))<|
.p 18 [17, 15] (.mov (.t 17))<|
.grp 18 true (.p 19 [0, 18] y16<|
.p 20 [19, 18] (.len false (.t 19))<|
.p 21 [20, 18] (.bin .eql .none (.t 20) (.i 0))<|
.nil) 22 [18, 21, 15] (.t 18) (.t 21) y33<|
.nil) 23 15 22<|
.nil)
 (.cond (.tmp 23) (.z (.c 6 V.nils<|
.q 7 12<|
.nil)
 .ret)
 .skip))
 (.z (.m 24 1<|
.op (some 25) y14 [24] (.build [y0, y0] [(0, 1, (.i 2)), (1, 1, (.t 24))])<|
.p 26 [25] (.buildSlice 253 1 [y0, y0] [(0, 2, (.t 25))])<|
.m 8 26<|
.nil)
 (.seq (.z (.m 27 2<|
.b 28 .eql .none (.t 27) (.i 1)<|
.nil)
 (.cond (.tmp 28) (.z (.m 29 8<|
.m 30 0<|
.p 31 [30] (.sliceSl 2 (.t 30) (some (.i 1)) none none)<|
.O 32 .one (.append 253 2 16 (.t 29) (.t 31))<|
.m 6 32<|
.q 7 0<|
.nil)
 .ret)
 .skip))
 (.z (.m 33 8<|
.m 34 0<|
.O 35 .one (.append 253 2 16 (.t 33) (.t 34))<|
.m 6 35<|
.q 7 0<|
.nil)
 .ret)))))
def A224 : XFn := ⟨36, [.any, .i, .i], [(.tmp 6), (.tmp 7)], C224_0⟩
def q230a : List (Nat × List XTy) := [(7, [.i, .any, .bool, .bool, .bool, .bool, .i, .i, .any, .any, .i, .bool, .i]), (9, [.i, .i])]
def q230b : List (Nat × XTy) := [(0, .ptr), (1, .i), (5, .ptr), (8, .i), (52, .any), (53, .i), (54, .i)]
def Fin230 (E : List (Nat × Blk)) : St → Ans := fun s => resK E s [(.tmp 6)] fun l => some (oneV l, s.σ)
def b230a (c0 : XC) : Nat → St → Ans := blkK 0 (dX E D W N (.keep [] [] [] c0) (Fin230 E) nX (Fin230 E)) nX
def C230_0 (cc1 : XC) (cc2 : XC) : XC := (.z (.P 5 (.box 38 (.t 2))<|
.c 6 y3<|
.nil)
 (.z (.m 14 0<|
.n 15 14<|
.f 16 0 15<|
.f 17 0 16<|
.f 18 3 17<|
.l 19 .any 18<|
.m 20 1<|
.s 21 13 19 20<|
.O 22 y1 (.load (some 13) (.t 21))<|
.pal 7 [] 145 [y0, V.nils, y3, y3, y3, y3, y0, y0, V.nils, V.nils, y0, y3, y0]<|
.op none y1 [7, 22] (.store 13 (.t 7) (.t 22))<|
.nil)
 (.seq (.z (.f 23 5 5<|
.l 24 .any 23<|
.u 25 24<|
.b 26 .eql .none (.t 25) (.i 0)<|
.nil)
 (.cond (.tmp 26) (.z (.f 27 4 5<|
.l 28 .i 27<|
.b 29 .eql .none (.t 28) (.i 0)<|
.m 6 29<|
.nil)
 .ret)
 .skip))
 (.seq (.z (.f 30 11 7<|
.l 31 .bool 30<|
.P 32 (.un .not (.t 31))<|
.m 33 32<|
.gO 33 false (.p 34 [5, 33] (.faddr 4 (.t 5))<|
.op (some 35) .i [34, 33] (.load none (.t 34))<|
.p 36 [35, 33] (.bin .neq .none (.t 35) (.i 1))<|
.p 37 [36, 33] (.mov (.t 36))<|
.grp 37 true (.p 38 [5, 37] (.faddr 4 (.t 5))<|
.op (some 39) .i [38, 37] (.load none (.t 38))<|
.p 40 [39, 37] (.bin .neq .none (.t 39) (.i 2))<|
.nil) 41 [37, 40, 33] (.t 37) (.t 40) y33<|
.nil) 42 33 41<|
.nil)
 (.cond (.tmp 42) (.z (.c 6 y3<|
.nil)
 .ret)
 .skip))
 (.z (.m 43 0<|
.n 44 43<|
.f 45 0 44<|
.f 46 0 45<|
.O 47 y7 (.load (some 4) (.t 46))<|
.m 48 1<|
.k 49 .one 155 [(.t 47), (.t 48)]<|
.u 50 49<|
.m 8 50<|
.nil)
 (.z (.pal 9 [] 253 [y0, y0]<|
.nil)
 (.seq (.z (.f 51 5 5<|
.l 52 .any 51<|
.u 53 52<|
.q 54 0<|
.nil)
 (.block 0 (.loop q230b [7, 9] q230a cc2)))
 (.keep [] [] [] cc1))))))))
def T230_0 (E : List (Nat × Blk)) (D : Den) (W : DrawFn) (K2 : Nat → Nat → Int → Nat → Nat → Int → V → Int → Int → Int → V → Bool → Bool → Bool → Bool → Int → Int → V → V → Int → Bool → Int → Int → Int → H → Ans) (a b : Nat) (c d e : Int) (f g : V) (h : Int) (i : V) (σ : H) : Ans :=
 nbK [(V.int .i64 d), (V.int .i64 e), f, g, (V.int .i64 h), i] σ fun s1 =>
 ldK E s1 a (Nat.add b 3) fun u2 =>
 iaddrSK 13 u2 c fun b3 o4 =>
 ldnK E s1 b3 o4 13 fun l5 =>
 xcI .i64 l5 fun x8 l7 =>
 rtCons l7 fun x9 l10 =>
 xcB l10 fun x13 l12 =>
 xcB l12 fun x16 l15 =>
 xcB l15 fun x19 l18 =>
 xcB l18 fun x22 l21 =>
 xcI .i64 l21 fun x25 l24 =>
 xcI .i64 l24 fun x28 l27 =>
 rtCons l27 fun x29 l30 =>
 rtCons l30 fun x31 l32 =>
 xcI .i64 l32 fun x35 l34 =>
 xcB l34 fun x38 l37 =>
 xcI .i64 l37 fun x41 l40 =>
 rtNil l40 (
 chk (allOne [(V.int .i64 x8), x9, (V.bool x13), (V.bool x16), (V.bool x19), (V.bool x22), (V.int .i64 x25), (V.int .i64 x28), x29, x31, (V.int .i64 x35), (V.bool x38), (V.int .i64 x41)]) (
 ldK E s1 (H.next σ) 5 fun u42 =>
 slenK u42 fun n43 =>
 condK (eqF (Int.ofNat n43) (Int.ofNat 0)) (
 ldK E s1 (H.next σ) 4 fun u44 =>
 rtInt .i64 u44 fun x45 =>
 some ((V.bool (eqF x45 (Int.ofNat 0))), s1)) (
 joinB (fun c46 s47 =>
 condK c46 (
 some ((V.bool false), s47)) (
 ldnK E s47 a b 4 fun l49 =>
 xcS l49 fun x52 l51 =>
 rtCons l51 fun x53 l54 =>
 rtCons l54 fun x55 l56 =>
 rtCons l56 fun x57 l58 =>
 rtNil l58 (
 callK (D 155 [(V.agg [(V.str x52), x53, x55, x57]), (V.int .i64 c)] s47) fun u59 s60 =>
 rtOne u59 (
 slenK u59 fun n61 =>
 ldK E s60 (H.next σ) 5 fun u62 =>
 slenK u62 fun n63 =>
 K2 a b c (H.next σ) 0 (Int.ofNat n61) u62 (Int.ofNat n63) (Int.ofNat 0) x8 x9 x13 x16 x19 x22 x25 x28 x29 x31 x35 x38 x41 (Int.ofNat 0) (Int.ofNat 0) s60)))) fun k48 =>
 condK (not x38) (
 k48 true s1) (
 ldK E s1 (H.next σ) 4 fun u64 =>
 rtInt .i64 u64 fun x65 =>
 joinB (fun c66 s67 =>
 k48 c66 s67) fun k68 =>
 condK (not (eqF x65 (Int.ofNat 1))) (
 ldK E s1 (H.next σ) 4 fun u69 =>
 rtInt .i64 u69 fun x70 =>
 k68 (not (eqF x70 (Int.ofNat 2))) s1) (
 k68 false s1)))))
def C230_1 : XC := (.z (.c 6 y37<|
.nil)
 .ret)
def T230_1 (E : List (Nat × Blk)) (D : Den) (W : DrawFn) (σ : H) : Ans :=
 some ((V.bool true), σ)
def C230_2 (cc3 : XC) : XC := (.z (.b 55 .lss .none (.t 54) (.t 53)<|
.nil)
 (.seq (.cond (.tmp 55) .skip
 y23)
 (.seq (.block 1 (.z (.m 56 54<|
.s 57 2 52 54<|
.O 58 (.agg [.i, .any]) (.load (some 2) (.t 57))<|
.pal 11 [] 70 [y0, V.nils]<|
.m 10 56<|
.op none (.agg [.i, .any]) [11, 58] (.store 2 (.t 11) (.t 58))<|
.nil)
 (.seq (.z (.f 59 4 5<|
.l 60 .i 59<|
.b 61 .eql .none (.t 60) (.i 2)<|
.nil)
 (.cond (.tmp 61) (.seq (.z (.f 62 0 11<|
.l 63 .i 62<|
.m 64 8<|
.b 65 .lss .none (.t 63) (.t 64)<|
.m 66 65<|
.gO 66 false (.p 67 [11, 66] (.faddr 0 (.t 11))<|
.op (some 68) .i [67, 66] (.load none (.t 67))<|
.p 69 [68, 66] (.bin .geq .none (.t 68) (.i 1000))<|
.nil) 70 66 69<|
.m 71 70<|
.gO 71 false (.p 72 [11, 71] (.faddr 1 (.t 11))<|
.p 73 [72, 71] (.load none (.t 72))<|
.op (some 74) .bool [73, 71] (.call 226 [(.t 73)])<|
.p 75 [74, 71] (.un .not (.t 74))<|
.nil) 76 71 75<|
.nil)
 (.cond (.tmp 76) (.z (.c 6 y3<|
.nil)
 .ret)
 .skip))
 (.z (.f 77 0 11<|
.l 78 .i 77<|
.b 79 .add .none (.t 78) (.i 1)<|
.m 8 79<|
.nil)
 (.exit 1)))
 .skip))
 (.z (.m 81 0<|
.m 82 1<|
.f 83 1 11<|
.l 84 .any 83<|
.k 85 (.tup [y14, .bool]) 225 [(.t 81), (.t 82), (.t 84)]<|
.m 80 85<|
.P 86 (.extract 0 (.t 80))<|
.P 87 (.extract 1 (.t 80))<|
.pal 12 [] 253 [y0, y0]<|
.op none y14 [12, 86] (.store 2 (.t 12) (.t 86))<|
.m 13 87<|
.nil)
 (.seq (.z (.m 88 13<|
.P 89 (.un .not (.t 88))<|
.m 90 89<|
.gO 90 false (.p 91 [11, 90] (.faddr 0 (.t 11))<|
.op (some 92) .i [91, 90] (.load none (.t 91))<|
.p 93 [92, 90] (.bin .neq .none (.t 92) (.i 0))<|
.nil) 94 90 93<|
.m 95 94<|
.gO 95 false (.p 96 [7, 95] (.faddr 0 (.t 7))<|
.op (some 97) .i [96, 95] (.load none (.t 96))<|
.p 98 [97, 95] (.bin .eql .none (.t 97) (.i 8))<|
.p 99 [98, 95] (.mov (.t 98))<|
.grp 99 true (.p 100 [10, 99] (.mov (.t 10))<|
.p 101 [100, 99] (.bin .gtr .none (.t 100) (.i 0))<|
.nil) 102 [99, 101, 95] (.t 99) (.t 101) y33<|
.p 103 [102, 95] (.mov (.t 102))<|
.grp 103 true (.op (some 104) y14 [9, 103] (.load (some 2) (.t 9))<|
.op (some 105) y14 [12, 103] (.load (some 2) (.t 12))<|
.op (some 106) .bool [104, 105, 103] (.call 247 [(.t 104), (.t 105)])<|
.p 107 [106, 103] (.un .not (.t 106))<|
.nil) 108 [103, 107, 95] (.t 103) (.t 107) y33<|
.nil) 109 95 108<|
.nil)
 (.cond (.tmp 109) (.z (.c 6 y3<|
.nil)
 .ret)
 .skip))
 (.ops (.O 110 y14 (.load (some 2) (.t 12))<|
.op none y14 [9, 110] (.store 2 (.t 9) (.t 110))<|
.nil)))))))
 (.keep q230b [7, 9] q230a cc3))))
def T230_2 (E : List (Nat × Blk)) (D : Den) (W : DrawFn) (K1 : H → Ans) (K3 : Nat → Nat → Int → Nat → Nat → Int → V → Int → Int → Int → V → Bool → Bool → Bool → Bool → Int → Int → V → V → Int → Bool → Int → Int → Int → H → Ans) (a b : Nat) (c : Int) (d e : Nat) (f : Int) (g : V) (h i j : Int) (k : V) (l m o p : Bool) (q r : Int) (s t : V) (u : Int) (v : Bool) (w x y : Int) (σ : H) : Ans :=
 condK (ltF i h) (
 iaddrSK 2 g i fun b1 o2 =>
 ldnK E σ b1 o2 2 fun l3 =>
 xcI .i64 l3 fun x6 l5 =>
 rtCons l5 fun x7 l8 =>
 rtNil l8 (
 chk (allOne [(V.int .i64 x6), x7]) (
 ldK E σ d (Nat.add e 4) fun u9 =>
 rtInt .i64 u9 fun x10 =>
 condK (eqF x10 (Int.ofNat 2)) (
 joinB (fun c11 s12 =>
 joinB (fun c14 s15 =>
 condK c14 (
 some ((V.bool false), s15)) (
 K3 a b c d e (addF .i64 x6 (Int.ofNat 1)) g h i j k l m o p q r s t u v w x y s15)) fun k16 =>
 condK c11 (
 k16 true s12) (
 callK (D 226 [x7] s12) fun u17 s18 =>
 rtBool u17 fun x19 =>
 k16 (not x19) s18)) fun k13 =>
 condK (ltF x6 f) (
 k13 true σ) (
 k13 (leF (Int.ofNat 1000) x6) σ)) (
 callK (D 225 [(V.ptr a b), (V.int .i64 c), x7] σ) fun u20 s21 =>
 rtTup u20 fun l22 =>
 rtCons l22 fun x23 l24 =>
 rtAgg x23 fun l25 =>
 xcI .i64 l25 fun x28 l27 =>
 xcI .i64 l27 fun x31 l30 =>
 rtNil l30 (
 xcB l24 fun x34 l33 =>
 rtNil l33 (
 joinB (fun c35 s36 =>
 joinB (fun c38 s39 =>
 condK c38 (
 some ((V.bool false), s39)) (
 K3 a b c d e f g h i j k l m o p q r s t u v w x28 x31 s39)) fun k40 =>
 condK c35 (
 k40 true s36) (
 joinB (fun c41 s42 =>
 joinB (fun c44 s45 =>
 k40 c44 s45) fun k46 =>
 condK c41 (
 callK (D 247 [(V.agg [(V.int .i64 x), (V.int .i64 y)]), (V.agg [(V.int .i64 x28), (V.int .i64 x31)])] s42) fun u47 s48 =>
 rtBool u47 fun x49 =>
 k46 (not x49) s48) (
 k46 false s42)) fun k43 =>
 condK (eqF j (Int.ofNat 8)) (
 k43 (ltF (Int.ofNat 0) i) s36) (
 k43 false s36))) fun k37 =>
 condK (not x34) (
 k37 true s21) (
 k37 (not (eqF x6 (Int.ofNat 0))) s21))))))) (
 K1 σ)
def C230_3 : XC := (.ops (.b 111 .add .none (.t 54) (.i 1)<|
.m 54 111<|
.nil))
def T230_3 (E : List (Nat × Blk)) (D : Den) (W : DrawFn) (R2 : Nat → Nat → Int → Nat → Nat → Int → V → Int → Int → Int → V → Bool → Bool → Bool → Bool → Int → Int → V → V → Int → Bool → Int → Int → Int → H → Ans) (a b : Nat) (c : Int) (d e : Nat) (f : Int) (g : V) (h i j : Int) (k : V) (l m o p : Bool) (q r : Int) (s t : V) (u : Int) (v : Bool) (w x y : Int) (σ : H) : Ans :=
 R2 a b c d e f g h (addF .i64 i (Int.ofNat 1)) j k l m o p q r s t u v w x y σ
def S230_0 (a b : Nat) (c d e : Int) (f g : V) (h : Int) (i : V) (σ : H) : St := ⟨[(0, (V.ptr a b)), (1, (V.int .i64 c)), (2, (V.agg [(V.int .i64 d), (V.int .i64 e), f, g, (V.int .i64 h), i]))], [], [], σ⟩
def S230_1 (σ : H) : St := ⟨[], [], [], σ⟩
def S230_2 (a b : Nat) (c : Int) (d e : Nat) (f : Int) (g : V) (h i j : Int) (k : V) (l m o p : Bool) (q r : Int) (s t : V) (u : Int) (v : Bool) (w x y : Int) (σ : H) : St := ⟨[(0, (V.ptr a b)), (1, (V.int .i64 c)), (5, (V.ptr d e)), (8, (V.int .i64 f)), (52, g), (53, (V.int .i64 h)), (54, (V.int .i64 i))], [(7, (7, 0)), (9, (9, 0))], [(7, [(V.int .i64 j), k, (V.bool l), (V.bool m), (V.bool o), (V.bool p), (V.int .i64 q), (V.int .i64 r), s, t, (V.int .i64 u), (V.bool v), (V.int .i64 w)]), (9, [(V.int .i64 x), (V.int .i64 y)])], σ⟩
def S230_3 (a b : Nat) (c : Int) (d e : Nat) (f : Int) (g : V) (h i j : Int) (k : V) (l m o p : Bool) (q r : Int) (s t : V) (u : Int) (v : Bool) (w x y : Int) (σ : H) : St := ⟨[(0, (V.ptr a b)), (1, (V.int .i64 c)), (5, (V.ptr d e)), (8, (V.int .i64 f)), (52, g), (53, (V.int .i64 h)), (54, (V.int .i64 i))], [(7, (7, 0)), (9, (9, 0))], [(7, [(V.int .i64 j), k, (V.bool l), (V.bool m), (V.bool o), (V.bool p), (V.int .i64 q), (V.int .i64 r), s, t, (V.int .i64 u), (V.bool v), (V.int .i64 w)]), (9, [(V.int .i64 x), (V.int .i64 y)])], σ⟩
theorem P230_0 (cc1 : XC) (cc2 : XC) (a b : Nat) (c d e : Int) (f g : V) (h : Int) (i : V) (σ : H) :
 denC E D W N (C230_0 cc1 cc2) (S230_0 a b c d e f g h i σ) (Fin230 E) nX (Fin230 E) =
 T230_0 E D W (fun a b c j k l m o p q r s t u v w x y z B I M O U σ => iterK (fun rec s' => denC E D W N cc2 s' (kX q230b [7, 9] q230a rec) (b230a E D W N cc1) (Fin230 E)) N (S230_2 a b c j k l m o p q r s t u v w x y z B I M O U σ)) a b c d e f g h i σ := by kernel_rfl
theorem P230_1 (σ : H) :
 denC E D W N (C230_1 ) (S230_1 σ) (Fin230 E) nX (Fin230 E) =
 T230_1 E D W   σ := by kernel_rfl
theorem P230_2 (cc1 : XC) (cc3 : XC) (li2 : St → Ans) (a b : Nat) (c : Int) (d e : Nat) (f : Int) (g : V) (h i j : Int) (k : V) (l m o p : Bool) (q r : Int) (s t : V) (u : Int) (v : Bool) (w x y : Int) (σ : H) :
 denC E D W N (C230_2 cc3) (S230_2 a b c d e f g h i j k l m o p q r s t u v w x y σ) (kX q230b [7, 9] q230a li2) (b230a E D W N cc1) (Fin230 E) =
 T230_2 E D W (fun  σ => denC E D W N cc1 (S230_1 σ) (Fin230 E) nX (Fin230 E)) (fun a b c d e f g h i j k l m o p q r s t u v w x y σ => denC E D W N cc3 (S230_3 a b c d e f g h i j k l m o p q r s t u v w x y σ) (kX q230b [7, 9] q230a li2) (b230a E D W N cc1) (Fin230 E)) a b c d e f g h i j k l m o p q r s t u v w x y σ := by kernel_rfl
theorem P230_3 (cc1 : XC) (li2 : St → Ans) (a b : Nat) (c : Int) (d e : Nat) (f : Int) (g : V) (h i j : Int) (k : V) (l m o p : Bool) (q r : Int) (s t : V) (u : Int) (v : Bool) (w x y : Int) (σ : H) :
 denC E D W N (C230_3 ) (S230_3 a b c d e f g h i j k l m o p q r s t u v w x y σ) (kX q230b [7, 9] q230a li2) (b230a E D W N cc1) (Fin230 E) =
 T230_3 E D W (fun a b c d e f g h i j k l m o p q r s t u v w x y σ => li2 (S230_2 a b c d e f g h i j k l m o p q r s t u v w x y σ)) a b c d e f g h i j k l m o p q r s t u v w x y σ := by kernel_rfl
def J230_1 (E : List (Nat × Blk)) (D : Den) (W : DrawFn) (N : Nat) := T230_1 E D W
theorem JE230_1 (σ : H) :
 denC E D W N C230_1 (S230_1 σ) (Fin230 E) nX (Fin230 E) = J230_1 E D W N  σ := by
 refine (P230_1 E D W N    σ).trans ?_
 kernel_rfl
def J230_3 (E : List (Nat × Blk)) (D : Den) (W : DrawFn) (N : Nat) (R2 : Nat → Nat → Int → Nat → Nat → Int → V → Int → Int → Int → V → Bool → Bool → Bool → Bool → Int → Int → V → V → Int → Bool → Int → Int → Int → H → Ans) := T230_3 E D W R2
theorem JE230_3 (li2 : St → Ans) (a b : Nat) (c : Int) (d e : Nat) (f : Int) (g : V) (h i j : Int) (k : V) (l m o p : Bool) (q r : Int) (s t : V) (u : Int) (v : Bool) (w x y : Int) (σ : H) :
 denC E D W N C230_3 (S230_3 a b c d e f g h i j k l m o p q r s t u v w x y σ) (kX q230b [7, 9] q230a li2) (b230a E D W N C230_1) (Fin230 E) = J230_3 E D W N (fun a b c d e f g h i j k l m o p q r s t u v w x y σ => li2 (S230_2 a b c d e f g h i j k l m o p q r s t u v w x y σ)) a b c d e f g h i j k l m o p q r s t u v w x y σ := by
 refine (P230_3 E D W N C230_1 li2 a b c d e f g h i j k l m o p q r s t u v w x y σ).trans ?_
 kernel_rfl
def L230_2 (n : Nat) : Nat → Nat → Int → Nat → Nat → Int → V → Int → Int → Int → V → Bool → Bool → Bool → Bool → Int → Int → V → V → Int → Bool → Int → Int → Int → H → Ans :=
 Nat.rec (fun _ _ _ _ _ _ _ _ _ _ _ _ _ _ _ _ _ _ _ _ _ _ _ _ _ => none) (fun _ ih => T230_2 E D W (J230_1 E D W N ) (J230_3 E D W N ih)) n
theorem LE230_2 (n : Nat) : ∀ (a b : Nat) (c : Int) (d e : Nat) (f : Int) (g : V) (h i j : Int) (k : V) (l m o p : Bool) (q r : Int) (s t : V) (u : Int) (v : Bool) (w x y : Int) (σ : H),
 iterK (fun rec s' => denC E D W N (C230_2 C230_3) s' (kX q230b [7, 9] q230a rec) (b230a E D W N C230_1) (Fin230 E)) n (S230_2 a b c d e f g h i j k l m o p q r s t u v w x y σ) = L230_2 E D W N n a b c d e f g h i j k l m o p q r s t u v w x y σ := by
 induction n with
 | zero => intro a b c d e f g h i j k l m o p q r s t u v w x y σ; rfl
 | succ n ihn =>
  intro a b c d e f g h i j k l m o p q r s t u v w x y σ
  rw [iterK_succ]
  refine (P230_2 E D W N C230_1 C230_3 (iterK (fun rec s' => denC E D W N (C230_2 C230_3) s' (kX q230b [7, 9] q230a rec) (b230a E D W N C230_1) (Fin230 E)) n) a b c d e f g h i j k l m o p q r s t u v w x y σ).trans ?_
  simp only [ihn, JE230_1, JE230_3]
  kernel_rfl
def J230_0 := T230_0 E D W (L230_2 E D W N N)
theorem JE230_0 (a b : Nat) (c d e : Int) (f g : V) (h : Int) (i : V) (σ : H) :
 denC E D W N (C230_0 C230_1 (C230_2 C230_3)) (S230_0 a b c d e f g h i σ) (Fin230 E) nX (Fin230 E) = J230_0 E D W N a b c d e f g h i σ := by
 refine (P230_0 E D W N C230_1 (C230_2 C230_3)  a b c d e f g h i σ).trans ?_
 simp only [LE230_2]
 kernel_rfl
def F230 (args : List V) (σ : H) : Ans :=
 rtCons args fun x1 l2 =>
 rtPtr x1 fun b3 o4 =>
 xcI .i64 l2 fun x7 l6 =>
 rtCons l6 fun x8 l9 =>
 rtAgg x8 fun l10 =>
 xcI .i64 l10 fun x13 l12 =>
 xcI .i64 l12 fun x16 l15 =>
 rtCons l15 fun x17 l18 =>
 rtCons l18 fun x19 l20 =>
 xcI .i64 l20 fun x23 l22 =>
 rtCons l22 fun x24 l25 =>
 rtNil l25 (
 rtNil l9 (
 J230_0 E D W N b3 o4 x7 x13 x16 x17 x19 x23 x24 σ))
def A230 : XFn := ⟨112, [.ptr, .i, y2], [(.tmp 6)], (C230_0 C230_1 (C230_2 C230_3))⟩
theorem FE230 (args : List V) (σ : H) : runX E D W N A230 args σ = F230 E D W N args σ := by
 unfold F230
 simp only [← JE230_0]
 kernel_rfl
def Fin231 (E : List (Nat × Blk)) : St → Ans := fun s => resK E s [(.tmp 4)] fun l => some (oneV l, s.σ)
def C231_0 : XC := (.z (.P 2 (.box 145 (.t 0))<|
.c 4 y3<|
.nil)
 (.z (.f 5 9 2<|
.l 6 .any 5<|
.m 7 1<|
.s 8 11 6 7<|
.f 9 2 8<|
.l 10 .bool 9<|
.m 11 10<|
.gO 11 false (.p 12 [2, 11] (.faddr 9 (.t 2))<|
.p 13 [12, 11] (.load none (.t 12))<|
.p 14 [1, 11] y17<|
.p 15 [13, 14, 11] (.iaddrS 11 (.t 13) (.t 14))<|
.p 16 [15, 11] (.faddr 3 (.t 15))<|
.op (some 17) .bool [16, 11] (.load none (.t 16))<|
.nil) 18 11 17<|
.m 19 18<|
.gO 19 false (.p 20 [1, 19] y17<|
.p 21 [2, 19] (.faddr 10 (.t 2))<|
.op (some 22) .i [21, 19] (.load none (.t 21))<|
.p 23 [20, 22, 19] (.bin .geq .none (.t 20) (.t 22))<|
.nil) 24 19 23<|
.m 4 24<|
.nil)
 .ret))
def T231_0 (E : List (Nat × Blk)) (D : Den) (W : DrawFn) (a : Int) (b : V) (c d e f : Bool) (g h : Int) (i j : V) (k : Int) (l : Bool) (m o : Int) (σ : H) : Ans :=
 nbK [(V.int .i64 a), b, (V.bool c), (V.bool d), (V.bool e), (V.bool f), (V.int .i64 g), (V.int .i64 h), i, j, (V.int .i64 k), (V.bool l), (V.int .i64 m)] σ fun s1 =>
 ldK E s1 (H.next σ) 9 fun u2 =>
 iaddrSK 11 u2 o fun b3 o4 =>
 ldK E s1 b3 (Nat.add o4 2) fun u5 =>
 rtBool u5 fun x6 =>
 joinB (fun c7 s8 =>
 joinB (fun c10 s11 =>
 some ((V.bool c10), s11)) fun k12 =>
 condK c7 (
 k12 true s8) (
 ldK E s8 (H.next σ) 10 fun u13 =>
 rtInt .i64 u13 fun x14 =>
 k12 (leF x14 o) s8)) fun k9 =>
 condK x6 (
 k9 true s1) (
 ldK E s1 (H.next σ) 9 fun u15 =>
 iaddrSK 11 u15 o fun b16 o17 =>
 ldK E s1 b16 (Nat.add o17 3) fun u18 =>
 rtBool u18 fun x19 =>
 k9 x19 s1)
def S231_0 (a : Int) (b : V) (c d e f : Bool) (g h : Int) (i j : V) (k : Int) (l : Bool) (m o : Int) (σ : H) : St := ⟨[(0, (V.agg [(V.int .i64 a), b, (V.bool c), (V.bool d), (V.bool e), (V.bool f), (V.int .i64 g), (V.int .i64 h), i, j, (V.int .i64 k), (V.bool l), (V.int .i64 m)])), (1, (V.int .i64 o))], [], [], σ⟩
theorem P231_0 (a : Int) (b : V) (c d e f : Bool) (g h : Int) (i j : V) (k : Int) (l : Bool) (m o : Int) (σ : H) :
 denC E D W N (C231_0 ) (S231_0 a b c d e f g h i j k l m o σ) (Fin231 E) nX (Fin231 E) =
 T231_0 E D W  a b c d e f g h i j k l m o σ := by kernel_rfl
def J231_0 (E : List (Nat × Blk)) (D : Den) (W : DrawFn) (N : Nat) := T231_0 E D W
theorem JE231_0 (a : Int) (b : V) (c d e f : Bool) (g h : Int) (i j : V) (k : Int) (l : Bool) (m o : Int) (σ : H) :
 denC E D W N C231_0 (S231_0 a b c d e f g h i j k l m o σ) (Fin231 E) nX (Fin231 E) = J231_0 E D W N a b c d e f g h i j k l m o σ := by
 refine (P231_0 E D W N   a b c d e f g h i j k l m o σ).trans ?_
 kernel_rfl
def F231 (args : List V) (σ : H) : Ans :=
 rtCons args fun x1 l2 =>
 rtAgg x1 fun l3 =>
 xcI .i64 l3 fun x6 l5 =>
 rtCons l5 fun x7 l8 =>
 xcB l8 fun x11 l10 =>
 xcB l10 fun x14 l13 =>
 xcB l13 fun x17 l16 =>
 xcB l16 fun x20 l19 =>
 xcI .i64 l19 fun x23 l22 =>
 xcI .i64 l22 fun x26 l25 =>
 rtCons l25 fun x27 l28 =>
 rtCons l28 fun x29 l30 =>
 xcI .i64 l30 fun x33 l32 =>
 xcB l32 fun x36 l35 =>
 xcI .i64 l35 fun x39 l38 =>
 rtNil l38 (
 xcI .i64 l2 fun x42 l41 =>
 rtNil l41 (
 J231_0 E D W N x6 x7 x11 x14 x17 x20 x23 x26 x27 x29 x33 x36 x39 x42 σ))
def A231 : XFn := ⟨25, [y1, .i], [(.tmp 4)], C231_0⟩
theorem FE231 (args : List V) (σ : H) : runX E D W N A231 args σ = F231 E D W N args σ := by
 unfold F231
 simp only [← JE231_0]
 kernel_rfl
def q233a : List (Nat × XTy) := [(5, .ptr), (10, .bool), (11, .bool), (30, .any), (31, .i), (32, .i), (45, .any), (46, .i), (47, .i)]
def q233b : List (Nat × List XTy) := [(7, [.i, .any, .bool, .bool, .bool, .bool, .i, .i, .any, .any, .i, .bool, .i])]
def q233c : List (Nat × XTy) := [(5, .ptr), (10, .bool), (11, .bool), (30, .any), (31, .i), (32, .i)]
def q233d : List (Nat × XTy) := [(5, .ptr), (30, .any), (31, .i), (32, .i)]
def Fin233 (E : List (Nat × Blk)) : St → Ans := fun s => resK E s [(.tmp 6)] fun l => some (oneV l, s.σ)
def b233a (c0 c1 : XC) (l0 : St → Ans) : St → Ans := dX E D W N (.keep q233d [7] q233b c0) (kX q233d [7] q233b l0) (blkK 0 (dX E D W N (.keep [] [] [] c1) (Fin233 E) nX (Fin233 E)) nX) (Fin233 E)
def b233b (c0 : XC) : Nat → St → Ans := blkK 0 (dX E D W N (.keep [] [] [] c0) (Fin233 E) nX (Fin233 E)) nX
def b233c (c0 c1 c2 : XC) (l0 : St → Ans) : Nat → St → Ans := blkK 2 (dX E D W N (.keep q233c [7] q233b c0) (b233a E D W N c1 c2 l0) (blkK 1 (b233a E D W N c1 c2 l0) (b233b E D W N c2)) (Fin233 E)) (blkK 1 (b233a E D W N c1 c2 l0) (b233b E D W N c2))
def C233_0 (cc1 : XC) (cc2 : XC) : XC := (.z (.P 5 (.box 38 (.t 2))<|
.c 6 y3<|
.nil)
 (.z (.m 15 0<|
.n 16 15<|
.f 17 0 16<|
.f 18 0 17<|
.f 19 3 18<|
.l 20 .any 19<|
.m 21 1<|
.s 22 13 20 21<|
.O 23 y1 (.load (some 13) (.t 22))<|
.pal 7 [] 145 [y0, V.nils, y3, y3, y3, y3, y0, y0, V.nils, V.nils, y0, y3, y0]<|
.op none y1 [7, 23] (.store 13 (.t 7) (.t 23))<|
.nil)
 (.seq (.z (.m 24 0<|
.n 25 24<|
.f 26 0 25<|
.f 27 0 26<|
.O 28 y7 (.load (some 4) (.t 27))<|
.m 29 1<|
.k 30 .one 155 [(.t 28), (.t 29)]<|
.u 31 30<|
.q 32 0<|
.nil)
 (.block 0 (.loop q233d [7] q233b cc2)))
 (.keep [] [] [] cc1))))
def T233_0 (E : List (Nat × Blk)) (D : Den) (W : DrawFn) (K2 : Nat → Nat → V → Int → Int → Int → V → Bool → Bool → Bool → Bool → Int → Int → V → V → Int → Bool → Int → H → Ans) (a b : Nat) (c d e : Int) (f g : V) (h : Int) (i : V) (σ : H) : Ans :=
 nbK [(V.int .i64 d), (V.int .i64 e), f, g, (V.int .i64 h), i] σ fun s1 =>
 ldK E s1 a (Nat.add b 3) fun u2 =>
 iaddrSK 13 u2 c fun b3 o4 =>
 ldnK E s1 b3 o4 13 fun l5 =>
 xcI .i64 l5 fun x8 l7 =>
 rtCons l7 fun x9 l10 =>
 xcB l10 fun x13 l12 =>
 xcB l12 fun x16 l15 =>
 xcB l15 fun x19 l18 =>
 xcB l18 fun x22 l21 =>
 xcI .i64 l21 fun x25 l24 =>
 xcI .i64 l24 fun x28 l27 =>
 rtCons l27 fun x29 l30 =>
 rtCons l30 fun x31 l32 =>
 xcI .i64 l32 fun x35 l34 =>
 xcB l34 fun x38 l37 =>
 xcI .i64 l37 fun x41 l40 =>
 rtNil l40 (
 chk (allOne [(V.int .i64 x8), x9, (V.bool x13), (V.bool x16), (V.bool x19), (V.bool x22), (V.int .i64 x25), (V.int .i64 x28), x29, x31, (V.int .i64 x35), (V.bool x38), (V.int .i64 x41)]) (
 ldnK E s1 a b 4 fun l42 =>
 xcS l42 fun x45 l44 =>
 rtCons l44 fun x46 l47 =>
 rtCons l47 fun x48 l49 =>
 rtCons l49 fun x50 l51 =>
 rtNil l51 (
 callK (D 155 [(V.agg [(V.str x45), x46, x48, x50]), (V.int .i64 c)] s1) fun u52 s53 =>
 rtOne u52 (
 slenK u52 fun n54 =>
 K2 (H.next σ) 0 u52 (Int.ofNat n54) (Int.ofNat 0) x8 x9 x13 x16 x19 x22 x25 x28 x29 x31 x35 x38 x41 s53))))
def C233_1 : XC := (.z (.c 6 y37<|
.nil)
 .ret)
def T233_1 (E : List (Nat × Blk)) (D : Den) (W : DrawFn) (σ : H) : Ans :=
 some ((V.bool true), σ)
def C233_2 (cc3 : XC) (cc4 : XC) (cc5 : XC) : XC := (.z (.b 33 .lss .none (.t 32) (.t 31)<|
.nil)
 (.seq (.cond (.tmp 33) .skip
 y23)
 (.seq (.block 1 (.z (.s 34 1 30 32<|
.l 35 .any 34<|
.m 9 35<|
.nil)
 (.seq (.seq (.draw (.f 36 9 7<|
.l 37 .any 36<|
.m 38 9<|
.P 39 (.iaddrS 1 (.t 38) (.i 0))<|
.l 40 .i 39<|
.s 41 11 37 40<|
.f 42 10 41<|
.l 43 .i 42<|
.b 44 .eql .none (.t 43) (.i 0)<|
.nil) [0, 1, 0, 4, 12, 31, 63, 127, 255])
 (.cond (.tmp 44) (.exit 1)
 .skip))
 (.z (.c 10 y3<|
.c 11 y3<|
.nil)
 (.seq (.z (.m 45 9<|
.u 46 45<|
.q 47 0<|
.nil)
 (.block 2 (.loop q233a [7] q233b cc5)))
 (.keep q233c [7] q233b cc4))))))
 (.keep q233d [7] q233b cc3))))
def T233_2 (E : List (Nat × Blk)) (D : Den) (W : DrawFn) (K1 : H → Ans) (K3 : Nat → Nat → V → Int → Int → Int → V → Bool → Bool → Bool → Bool → Int → Int → V → V → Int → Bool → Int → H → Ans) (K5 : Nat → Nat → Bool → Bool → V → Int → Int → V → Int → Int → Int → V → Bool → Bool → Bool → Bool → Int → Int → V → V → Int → Bool → Int → H → Ans) (a b : Nat) (c : V) (d e f : Int) (g : V) (h i j k : Bool) (l m : Int) (o p : V) (q : Int) (r : Bool) (s : Int) (σ : H) : Ans :=
 condK (ltF e d) (
 iaddrSK 1 c e fun b1 o2 =>
 ldK E σ b1 o2 fun u3 =>
 iaddrSK 1 u3 (Int.ofNat 0) fun b4 o5 =>
 ldK E σ b4 o5 fun u6 =>
 rtInt .i64 u6 fun x7 =>
 iaddrSK 11 p x7 fun b8 o9 =>
 ldK E σ b8 (Nat.add o9 10) fun u10 =>
 rtInt .i64 u10 fun x11 =>
 condK (eqF x11 (Int.ofNat 0)) (
 K3 a b c d e f g h i j k l m o p q r s σ) (
 slenK u3 fun n12 =>
 K5 a b false false c d e u3 (Int.ofNat n12) (Int.ofNat 0) f g h i j k l m o p q r s σ)) (
 K1 σ)
def C233_3 : XC := (.ops (.b 90 .add .none (.t 32) (.i 1)<|
.m 32 90<|
.nil))
def T233_3 (E : List (Nat × Blk)) (D : Den) (W : DrawFn) (R2 : Nat → Nat → V → Int → Int → Int → V → Bool → Bool → Bool → Bool → Int → Int → V → V → Int → Bool → Int → H → Ans) (a b : Nat) (c : V) (d e f : Int) (g : V) (h i j k : Bool) (l m : Int) (o p : V) (q : Int) (r : Bool) (s : Int) (σ : H) : Ans :=
 R2 a b c d (addF .i64 e (Int.ofNat 1)) f g h i j k l m o p q r s σ
def C233_4 : XC := (.z (.m 86 10<|
.m 87 86<|
.gA 87 true (.p 88 [11, 87] (.mov (.t 11))<|
.nil) 89 87 88<|
.nil)
 (.cond (.tmp 89) (.z (.c 6 y3<|
.nil)
 .ret)
 .skip))
def T233_4 (E : List (Nat × Blk)) (D : Den) (W : DrawFn) (K3 : Nat → Nat → V → Int → Int → Int → V → Bool → Bool → Bool → Bool → Int → Int → V → V → Int → Bool → Int → H → Ans) (a b : Nat) (c d : Bool) (e : V) (f g h : Int) (i : V) (j k l m : Bool) (o p : Int) (q r : V) (s : Int) (t : Bool) (u : Int) (σ : H) : Ans :=
 joinB (fun c1 s2 =>
 condK c1 (
 some ((V.bool false), s2)) (
 K3 a b e f g h i j k l m o p q r s t u s2)) fun k3 =>
 condK c (
 k3 d σ) (
 k3 false σ)
def C233_5 : XC := (.z (.b 48 .lss .none (.t 47) (.t 46)<|
.nil)
 (.seq (.cond (.tmp 48) .skip
 (.exit 2))
 (.seq (.block 3 (.z (.s 49 1 45 47<|
.l 50 .i 49<|
.m 13 50<|
.nil)
 (.z (.f 51 3 5<|
.l 52 .any 51<|
.m 53 13<|
.s 54 6 52 53<|
.O 55 y2 (.load (some 6) (.t 54))<|
.k 56 .bool 158 [(.t 55)]<|
.P 57 (.un .not (.t 56))<|
.m 14 57<|
.nil)
 (.z (.m 58 10<|
.m 59 58<|
.gO 59 false (.p 60 [14, 59] (.mov (.t 14))<|
.nil) 61 59 60<|
.m 10 61<|
.nil)
 (.ops (.m 62 11<|
.m 63 62<|
.gO 63 false (.p 64 [14, 63] (.mov (.t 14))<|
.p 65 [64, 63] (.un .not (.t 64))<|
.p 66 [65, 63] (.mov (.t 65))<|
.grp 66 true (.p 67 [7, 66] (.faddr 9 (.t 7))<|
.p 68 [67, 66] (.load none (.t 67))<|
.p 69 [13, 66] (.mov (.t 13))<|
.p 70 [68, 69, 66] (.iaddrS 11 (.t 68) (.t 69))<|
.p 71 [70, 66] (.faddr 2 (.t 70))<|
.op (some 72) .bool [71, 66] (.load none (.t 71))<|
.p 73 [72, 66] (.un .not (.t 72))<|
.nil) 74 [66, 73, 63] (.t 66) (.t 73) y33<|
.p 75 [74, 63] (.mov (.t 74))<|
.grp 75 true (.p 76 [7, 75] (.faddr 9 (.t 7))<|
.p 77 [76, 75] (.load none (.t 76))<|
.p 78 [13, 75] (.mov (.t 13))<|
.p 79 [77, 78, 75] (.iaddrS 11 (.t 77) (.t 78))<|
.p 80 [79, 75] (.faddr 3 (.t 79))<|
.op (some 81) .bool [80, 75] (.load none (.t 80))<|
.p 82 [81, 75] (.un .not (.t 81))<|
.nil) 83 [75, 82, 63] (.t 75) (.t 82) y33<|
.nil) 84 63 83<|
.m 11 84<|
.nil))))))
 (.ops (.b 85 .add .none (.t 47) (.i 1)<|
.m 47 85<|
.nil)))))
def T233_5 (E : List (Nat × Blk)) (D : Den) (W : DrawFn) (K4 : Nat → Nat → Bool → Bool → V → Int → Int → Int → V → Bool → Bool → Bool → Bool → Int → Int → V → V → Int → Bool → Int → H → Ans) (R5 : Nat → Nat → Bool → Bool → V → Int → Int → V → Int → Int → Int → V → Bool → Bool → Bool → Bool → Int → Int → V → V → Int → Bool → Int → H → Ans) (a b : Nat) (c d : Bool) (e : V) (f g : Int) (h : V) (i j k : Int) (l : V) (m o p q : Bool) (r s : Int) (t u : V) (v : Int) (w : Bool) (x : Int) (σ : H) : Ans :=
 condK (ltF j i) (
 iaddrSK 1 h j fun b1 o2 =>
 ldK E σ b1 o2 fun u3 =>
 rtInt .i64 u3 fun x4 =>
 ldK E σ a (Nat.add b 3) fun u5 =>
 iaddrSK 6 u5 x4 fun b6 o7 =>
 ldnK E σ b6 o7 6 fun l8 =>
 xcI .i64 l8 fun x11 l10 =>
 xcI .i64 l10 fun x14 l13 =>
 rtCons l13 fun x15 l16 =>
 rtCons l16 fun x17 l18 =>
 xcI .i64 l18 fun x21 l20 =>
 rtCons l20 fun x22 l23 =>
 rtNil l23 (
 callK (D 158 [(V.agg [(V.int .i64 x11), (V.int .i64 x14), x15, x17, (V.int .i64 x21), x22])] σ) fun u24 s25 =>
 rtBool u24 fun x26 =>
 joinB (fun c27 s28 =>
 joinB (fun c30 s31 =>
 R5 a b c27 c30 e f g h i (addF .i64 j (Int.ofNat 1)) k l m o p q r s t u v w x s31) fun k32 =>
 condK d (
 k32 true s28) (
 joinB (fun c33 s34 =>
 joinB (fun c36 s37 =>
 k32 c36 s37) fun k38 =>
 condK c33 (
 iaddrSK 11 u x4 fun b39 o40 =>
 ldK E s34 b39 (Nat.add o40 3) fun u41 =>
 rtBool u41 fun x42 =>
 k38 (not x42) s34) (
 k38 false s34)) fun k35 =>
 condK (not (not x26)) (
 iaddrSK 11 u x4 fun b43 o44 =>
 ldK E s28 b43 (Nat.add o44 2) fun u45 =>
 rtBool u45 fun x46 =>
 k35 (not x46) s28) (
 k35 false s28))) fun k29 =>
 condK c (
 k29 true s25) (
 k29 (not x26) s25))) (
 K4 a b c d e f g k l m o p q r s t u v w x σ)
def S233_0 (a b : Nat) (c d e : Int) (f g : V) (h : Int) (i : V) (σ : H) : St := ⟨[(0, (V.ptr a b)), (1, (V.int .i64 c)), (2, (V.agg [(V.int .i64 d), (V.int .i64 e), f, g, (V.int .i64 h), i]))], [], [], σ⟩
def S233_1 (σ : H) : St := ⟨[], [], [], σ⟩
def S233_2 (a b : Nat) (c : V) (d e f : Int) (g : V) (h i j k : Bool) (l m : Int) (o p : V) (q : Int) (r : Bool) (s : Int) (σ : H) : St := ⟨[(5, (V.ptr a b)), (30, c), (31, (V.int .i64 d)), (32, (V.int .i64 e))], [(7, (7, 0))], [(7, [(V.int .i64 f), g, (V.bool h), (V.bool i), (V.bool j), (V.bool k), (V.int .i64 l), (V.int .i64 m), o, p, (V.int .i64 q), (V.bool r), (V.int .i64 s)])], σ⟩
def S233_3 (a b : Nat) (c : V) (d e f : Int) (g : V) (h i j k : Bool) (l m : Int) (o p : V) (q : Int) (r : Bool) (s : Int) (σ : H) : St := ⟨[(5, (V.ptr a b)), (30, c), (31, (V.int .i64 d)), (32, (V.int .i64 e))], [(7, (7, 0))], [(7, [(V.int .i64 f), g, (V.bool h), (V.bool i), (V.bool j), (V.bool k), (V.int .i64 l), (V.int .i64 m), o, p, (V.int .i64 q), (V.bool r), (V.int .i64 s)])], σ⟩
def S233_4 (a b : Nat) (c d : Bool) (e : V) (f g h : Int) (i : V) (j k l m : Bool) (o p : Int) (q r : V) (s : Int) (t : Bool) (u : Int) (σ : H) : St := ⟨[(5, (V.ptr a b)), (10, (V.bool c)), (11, (V.bool d)), (30, e), (31, (V.int .i64 f)), (32, (V.int .i64 g))], [(7, (7, 0))], [(7, [(V.int .i64 h), i, (V.bool j), (V.bool k), (V.bool l), (V.bool m), (V.int .i64 o), (V.int .i64 p), q, r, (V.int .i64 s), (V.bool t), (V.int .i64 u)])], σ⟩
def S233_5 (a b : Nat) (c d : Bool) (e : V) (f g : Int) (h : V) (i j k : Int) (l : V) (m o p q : Bool) (r s : Int) (t u : V) (v : Int) (w : Bool) (x : Int) (σ : H) : St := ⟨[(5, (V.ptr a b)), (10, (V.bool c)), (11, (V.bool d)), (30, e), (31, (V.int .i64 f)), (32, (V.int .i64 g)), (45, h), (46, (V.int .i64 i)), (47, (V.int .i64 j))], [(7, (7, 0))], [(7, [(V.int .i64 k), l, (V.bool m), (V.bool o), (V.bool p), (V.bool q), (V.int .i64 r), (V.int .i64 s), t, u, (V.int .i64 v), (V.bool w), (V.int .i64 x)])], σ⟩
theorem P233_0 (cc1 : XC) (cc2 : XC) (a b : Nat) (c d e : Int) (f g : V) (h : Int) (i : V) (σ : H) :
 denC E D W N (C233_0 cc1 cc2) (S233_0 a b c d e f g h i σ) (Fin233 E) nX (Fin233 E) =
 T233_0 E D W (fun j k l m o p q r s t u v w x y z B I σ => iterK (fun rec s' => denC E D W N cc2 s' (kX q233d [7] q233b rec) (b233b E D W N cc1) (Fin233 E)) N (S233_2 j k l m o p q r s t u v w x y z B I σ)) a b c d e f g h i σ := by kernel_rfl
theorem P233_1 (σ : H) :
 denC E D W N (C233_1 ) (S233_1 σ) (Fin233 E) nX (Fin233 E) =
 T233_1 E D W   σ := by kernel_rfl
theorem P233_2 (cc1 : XC) (cc3 : XC) (cc4 : XC) (cc5 : XC) (li2 : St → Ans) (a b : Nat) (c : V) (d e f : Int) (g : V) (h i j k : Bool) (l m : Int) (o p : V) (q : Int) (r : Bool) (s : Int) (σ : H) :
 denC E D W N (C233_2 cc3 cc4 cc5) (S233_2 a b c d e f g h i j k l m o p q r s σ) (kX q233d [7] q233b li2) (b233b E D W N cc1) (Fin233 E) =
 T233_2 E D W (fun  σ => denC E D W N cc1 (S233_1 σ) (Fin233 E) nX (Fin233 E)) (fun a b c d e f g h i j k l m o p q r s σ => denC E D W N cc3 (S233_3 a b c d e f g h i j k l m o p q r s σ) (kX q233d [7] q233b li2) (b233b E D W N cc1) (Fin233 E)) (fun a b t u c d e v w x f g h i j k l m o p q r s σ => iterK (fun rec s' => denC E D W N cc5 s' (kX q233a [7] q233b rec) (b233c E D W N cc4 cc3 cc1 li2) (Fin233 E)) N (S233_5 a b t u c d e v w x f g h i j k l m o p q r s σ)) a b c d e f g h i j k l m o p q r s σ := by kernel_rfl
theorem P233_3 (cc1 : XC) (li2 : St → Ans) (a b : Nat) (c : V) (d e f : Int) (g : V) (h i j k : Bool) (l m : Int) (o p : V) (q : Int) (r : Bool) (s : Int) (σ : H) :
 denC E D W N (C233_3 ) (S233_3 a b c d e f g h i j k l m o p q r s σ) (kX q233d [7] q233b li2) (b233b E D W N cc1) (Fin233 E) =
 T233_3 E D W (fun a b c d e f g h i j k l m o p q r s σ => li2 (S233_2 a b c d e f g h i j k l m o p q r s σ)) a b c d e f g h i j k l m o p q r s σ := by kernel_rfl
theorem P233_4 (cc1 : XC) (cc3 : XC) (li2 : St → Ans) (a b : Nat) (c d : Bool) (e : V) (f g h : Int) (i : V) (j k l m : Bool) (o p : Int) (q r : V) (s : Int) (t : Bool) (u : Int) (σ : H) :
 denC E D W N (C233_4 ) (S233_4 a b c d e f g h i j k l m o p q r s t u σ) (b233a E D W N cc3 cc1 li2) (blkK 1 (b233a E D W N cc3 cc1 li2) (b233b E D W N cc1)) (Fin233 E) =
 T233_4 E D W (fun a b e f g h i j k l m o p q r s t u σ => denC E D W N cc3 (S233_3 a b e f g h i j k l m o p q r s t u σ) (kX q233d [7] q233b li2) (b233b E D W N cc1) (Fin233 E)) a b c d e f g h i j k l m o p q r s t u σ := by kernel_rfl
theorem P233_5 (cc1 : XC) (cc3 : XC) (cc4 : XC) (li2 : St → Ans) (li5 : St → Ans) (a b : Nat) (c d : Bool) (e : V) (f g : Int) (h : V) (i j k : Int) (l : V) (m o p q : Bool) (r s : Int) (t u : V) (v : Int) (w : Bool) (x : Int) (σ : H) :
 denC E D W N (C233_5 ) (S233_5 a b c d e f g h i j k l m o p q r s t u v w x σ) (kX q233a [7] q233b li5) (b233c E D W N cc4 cc3 cc1 li2) (Fin233 E) =
 T233_5 E D W (fun a b c d e f g k l m o p q r s t u v w x σ => denC E D W N cc4 (S233_4 a b c d e f g k l m o p q r s t u v w x σ) (b233a E D W N cc3 cc1 li2) (blkK 1 (b233a E D W N cc3 cc1 li2) (b233b E D W N cc1)) (Fin233 E)) (fun a b c d e f g h i j k l m o p q r s t u v w x σ => li5 (S233_5 a b c d e f g h i j k l m o p q r s t u v w x σ)) a b c d e f g h i j k l m o p q r s t u v w x σ := by kernel_rfl
def J233_1 (E : List (Nat × Blk)) (D : Den) (W : DrawFn) (N : Nat) := T233_1 E D W
theorem JE233_1 (σ : H) :
 denC E D W N C233_1 (S233_1 σ) (Fin233 E) nX (Fin233 E) = J233_1 E D W N  σ := by
 refine (P233_1 E D W N    σ).trans ?_
 kernel_rfl
def J233_3 (E : List (Nat × Blk)) (D : Den) (W : DrawFn) (N : Nat) (R2 : Nat → Nat → V → Int → Int → Int → V → Bool → Bool → Bool → Bool → Int → Int → V → V → Int → Bool → Int → H → Ans) := T233_3 E D W R2
theorem JE233_3 (li2 : St → Ans) (a b : Nat) (c : V) (d e f : Int) (g : V) (h i j k : Bool) (l m : Int) (o p : V) (q : Int) (r : Bool) (s : Int) (σ : H) :
 denC E D W N C233_3 (S233_3 a b c d e f g h i j k l m o p q r s σ) (kX q233d [7] q233b li2) (b233b E D W N C233_1) (Fin233 E) = J233_3 E D W N (fun a b c d e f g h i j k l m o p q r s σ => li2 (S233_2 a b c d e f g h i j k l m o p q r s σ)) a b c d e f g h i j k l m o p q r s σ := by
 refine (P233_3 E D W N C233_1 li2 a b c d e f g h i j k l m o p q r s σ).trans ?_
 kernel_rfl
def J233_4 (R2 : Nat → Nat → V → Int → Int → Int → V → Bool → Bool → Bool → Bool → Int → Int → V → V → Int → Bool → Int → H → Ans) := T233_4 E D W (J233_3 E D W N R2)
theorem JE233_4 (li2 : St → Ans) (a b : Nat) (c d : Bool) (e : V) (f g h : Int) (i : V) (j k l m : Bool) (o p : Int) (q r : V) (s : Int) (t : Bool) (u : Int) (σ : H) :
 denC E D W N C233_4 (S233_4 a b c d e f g h i j k l m o p q r s t u σ) (b233a E D W N C233_3 C233_1 li2) (blkK 1 (b233a E D W N C233_3 C233_1 li2) (b233b E D W N C233_1)) (Fin233 E) = J233_4 E D W N (fun a b e f g h i j k l m o p q r s t u σ => li2 (S233_2 a b e f g h i j k l m o p q r s t u σ)) a b c d e f g h i j k l m o p q r s t u σ := by
 refine (P233_4 E D W N C233_1 C233_3 li2 a b c d e f g h i j k l m o p q r s t u σ).trans ?_
 simp only [JE233_3]
 kernel_rfl
def L233_5 (R2 : Nat → Nat → V → Int → Int → Int → V → Bool → Bool → Bool → Bool → Int → Int → V → V → Int → Bool → Int → H → Ans) (n : Nat) : Nat → Nat → Bool → Bool → V → Int → Int → V → Int → Int → Int → V → Bool → Bool → Bool → Bool → Int → Int → V → V → Int → Bool → Int → H → Ans :=
 Nat.rec (fun _ _ _ _ _ _ _ _ _ _ _ _ _ _ _ _ _ _ _ _ _ _ _ _ => none) (fun _ ih => T233_5 E D W (J233_4 E D W N R2) ih) n
theorem LE233_5 (li2 : St → Ans) (n : Nat) : ∀ (a b : Nat) (c d : Bool) (e : V) (f g : Int) (h : V) (i j k : Int) (l : V) (m o p q : Bool) (r s : Int) (t u : V) (v : Int) (w : Bool) (x : Int) (σ : H),
 iterK (fun rec s' => denC E D W N C233_5 s' (kX q233a [7] q233b rec) (b233c E D W N C233_4 C233_3 C233_1 li2) (Fin233 E)) n (S233_5 a b c d e f g h i j k l m o p q r s t u v w x σ) = L233_5 E D W N (fun a b e f g k l m o p q r s t u v w x σ => li2 (S233_2 a b e f g k l m o p q r s t u v w x σ)) n a b c d e f g h i j k l m o p q r s t u v w x σ := by
 induction n with
 | zero => intro a b c d e f g h i j k l m o p q r s t u v w x σ; rfl
 | succ n ihn =>
  intro a b c d e f g h i j k l m o p q r s t u v w x σ
  rw [iterK_succ]
  refine (P233_5 E D W N C233_1 C233_3 C233_4 li2 (iterK (fun rec s' => denC E D W N C233_5 s' (kX q233a [7] q233b rec) (b233c E D W N C233_4 C233_3 C233_1 li2) (Fin233 E)) n) a b c d e f g h i j k l m o p q r s t u v w x σ).trans ?_
  simp only [ihn, JE233_4]
  kernel_rfl
def L233_2 (n : Nat) : Nat → Nat → V → Int → Int → Int → V → Bool → Bool → Bool → Bool → Int → Int → V → V → Int → Bool → Int → H → Ans :=
 Nat.rec (fun _ _ _ _ _ _ _ _ _ _ _ _ _ _ _ _ _ _ _ => none) (fun _ ih => T233_2 E D W (J233_1 E D W N ) (J233_3 E D W N ih) (L233_5 E D W N ih N)) n
theorem LE233_2 (n : Nat) : ∀ (a b : Nat) (c : V) (d e f : Int) (g : V) (h i j k : Bool) (l m : Int) (o p : V) (q : Int) (r : Bool) (s : Int) (σ : H),
 iterK (fun rec s' => denC E D W N (C233_2 C233_3 C233_4 C233_5) s' (kX q233d [7] q233b rec) (b233b E D W N C233_1) (Fin233 E)) n (S233_2 a b c d e f g h i j k l m o p q r s σ) = L233_2 E D W N n a b c d e f g h i j k l m o p q r s σ := by
 induction n with
 | zero => intro a b c d e f g h i j k l m o p q r s σ; rfl
 | succ n ihn =>
  intro a b c d e f g h i j k l m o p q r s σ
  rw [iterK_succ]
  refine (P233_2 E D W N C233_1 C233_3 C233_4 C233_5 (iterK (fun rec s' => denC E D W N (C233_2 C233_3 C233_4 C233_5) s' (kX q233d [7] q233b rec) (b233b E D W N C233_1) (Fin233 E)) n) a b c d e f g h i j k l m o p q r s σ).trans ?_
  simp only [ihn, JE233_1, JE233_3, LE233_5]
  kernel_rfl
def J233_0 := T233_0 E D W (L233_2 E D W N N)
theorem JE233_0 (a b : Nat) (c d e : Int) (f g : V) (h : Int) (i : V) (σ : H) :
 denC E D W N (C233_0 C233_1 (C233_2 C233_3 C233_4 C233_5)) (S233_0 a b c d e f g h i σ) (Fin233 E) nX (Fin233 E) = J233_0 E D W N a b c d e f g h i σ := by
 refine (P233_0 E D W N C233_1 (C233_2 C233_3 C233_4 C233_5)  a b c d e f g h i σ).trans ?_
 simp only [LE233_2]
 kernel_rfl
def F233 (args : List V) (σ : H) : Ans :=
 rtCons args fun x1 l2 =>
 rtPtr x1 fun b3 o4 =>
 xcI .i64 l2 fun x7 l6 =>
 rtCons l6 fun x8 l9 =>
 rtAgg x8 fun l10 =>
 xcI .i64 l10 fun x13 l12 =>
 xcI .i64 l12 fun x16 l15 =>
 rtCons l15 fun x17 l18 =>
 rtCons l18 fun x19 l20 =>
 xcI .i64 l20 fun x23 l22 =>
 rtCons l22 fun x24 l25 =>
 rtNil l25 (
 rtNil l9 (
 J233_0 E D W N b3 o4 x7 x13 x16 x17 x19 x23 x24 σ))
def A233 : XFn := ⟨91, [.ptr, .i, y2], [(.tmp 6)], (C233_0 C233_1 (C233_2 C233_3 C233_4 C233_5))⟩
theorem FE233 (args : List V) (σ : H) : runX E D W N A233 args σ = F233 E D W N args σ := by
 unfold F233
 simp only [← JE233_0]
 kernel_rfl
def q234a : List (Nat × XTy) := [(0, .any), (1, (.int .u32)), (6, .i)]
def Fin234 (E : List (Nat × Blk)) : St → Ans := fun s => resK E s [] fun l => some (oneV l, s.σ)
def C234_0 (cc1 : XC) : XC := (.z (.m 7 2<|
.k 8 .i 260 [(.t 7)]<|
.b 9 .sub .none (.t 8) (.i 1)<|
.m 6 9<|
.nil)
 (.block 0 (.loop q234a [] [] cc1)))
def T234_0 (E : List (Nat × Blk)) (D : Den) (W : DrawFn) (K1 : V → Int → Int → H → Ans) (a : V) (b c : Int) (σ : H) : Ans :=
 callK (D 260 [(V.int .i64 c)] σ) fun u1 s2 =>
 rtInt .i64 u1 fun x3 =>
 K1 a b (subF .i64 x3 (Int.ofNat 1)) s2
def C234_1 : XC := (.seq (.z (.m 10 6<|
.b 11 .geq .none (.t 10) (.i 0)<|
.nil)
 (.cond (.tmp 11) .skip
 y23))
 (.seq (.block 1 (.ops (.m 14 0<|
.m 15 1<|
.m 16 6<|
.b 17 .shr .none (.t 15) (.t 16)<|
.b 18 .and .none (.t 17) (.con (V.int .u32 (Int.ofNat 1)))<|
.P 19 (.conv (.toInt .i64) (.t 18))<|
.k 20 y10 289 [(.t 14), (.t 19)]<|
.nil)))
 (.ops (.m 12 6<|
.b 13 .sub .none (.t 12) (.i 1)<|
.m 6 13<|
.nil))))
def T234_1 (E : List (Nat × Blk)) (D : Den) (W : DrawFn) (R1 : V → Int → Int → H → Ans) (a : V) (b c : Int) (σ : H) : Ans :=
 condK (leF (Int.ofNat 0) c) (
 nnK c fun n1 =>
 callK (D 289 [a, (V.int .i64 (wrapF .i64 (andF .u32 (shrF .u32 b n1) (Int.ofNat 1))))] σ) fun u2 s3 =>
 rtTup u2 fun l4 =>
 rtNil l4 (
 R1 a b (subF .i64 c (Int.ofNat 1)) s3)) (
 some ((V.tup []), σ))
def S234_0 (a : V) (b c : Int) (σ : H) : St := ⟨[(0, a), (1, (V.int .u32 b)), (2, (V.int .i64 c))], [], [], σ⟩
def S234_1 (a : V) (b c : Int) (σ : H) : St := ⟨[(0, a), (1, (V.int .u32 b)), (6, (V.int .i64 c))], [], [], σ⟩
theorem P234_0 (cc1 : XC) (a : V) (b c : Int) (σ : H) :
 denC E D W N (C234_0 cc1) (S234_0 a b c σ) (Fin234 E) nX (Fin234 E) =
 T234_0 E D W (fun a b d σ => iterK (fun rec s' => denC E D W N cc1 s' (kX q234a [] [] rec) (blkK 0 (Fin234 E) nX) (Fin234 E)) N (S234_1 a b d σ)) a b c σ := by kernel_rfl
theorem P234_1 (li1 : St → Ans) (a : V) (b c : Int) (σ : H) :
 denC E D W N (C234_1 ) (S234_1 a b c σ) (kX q234a [] [] li1) (blkK 0 (Fin234 E) nX) (Fin234 E) =
 T234_1 E D W (fun a b c σ => li1 (S234_1 a b c σ)) a b c σ := by kernel_rfl
def L234_1 (E : List (Nat × Blk)) (D : Den) (W : DrawFn) (N : Nat) (n : Nat) : V → Int → Int → H → Ans :=
 Nat.rec (fun _ _ _ _ => none) (fun _ ih => T234_1 E D W ih) n
theorem LE234_1 (n : Nat) : ∀ (a : V) (b c : Int) (σ : H),
 iterK (fun rec s' => denC E D W N C234_1 s' (kX q234a [] [] rec) (blkK 0 (Fin234 E) nX) (Fin234 E)) n (S234_1 a b c σ) = L234_1 E D W N n a b c σ := by
 induction n with
 | zero => intro a b c σ; rfl
 | succ n ihn =>
  intro a b c σ
  rw [iterK_succ]
  refine (P234_1 E D W N  (iterK (fun rec s' => denC E D W N C234_1 s' (kX q234a [] [] rec) (blkK 0 (Fin234 E) nX) (Fin234 E)) n) a b c σ).trans ?_
  simp only [ihn]
  kernel_rfl
def J234_0 := T234_0 E D W (L234_1 E D W N N)
theorem JE234_0 (a : V) (b c : Int) (σ : H) :
 denC E D W N (C234_0 C234_1) (S234_0 a b c σ) (Fin234 E) nX (Fin234 E) = J234_0 E D W N a b c σ := by
 refine (P234_0 E D W N C234_1  a b c σ).trans ?_
 simp only [LE234_1]
 kernel_rfl
def F234 (args : List V) (σ : H) : Ans :=
 rtCons args fun x1 l2 =>
 xcI .u32 l2 fun x5 l4 =>
 xcI .i64 l4 fun x8 l7 =>
 rtNil l7 (
 J234_0 E D W N x1 x5 x8 σ)
def A234 : XFn := ⟨21, [.any, (.int .u32), .i], [], (C234_0 C234_1)⟩
theorem FE234 (args : List V) (σ : H) : runX E D W N A234 args σ = F234 E D W N args σ := by
 unfold F234
 simp only [← JE234_0]
 kernel_rfl
def C235_0 : XC := (.z (.P 1 (.box 266 (.t 0))<|
.c 2 y3<|
.nil)
 (.z (.f 3 0 1<|
.f 4 0 3<|
.l 5 .bool 4<|
.m 6 5<|
.gA 6 true (.p 7 [1, 6] (.faddr 0 (.t 1))<|
.p 8 [7, 6] (.faddr 1 (.t 7))<|
.op (some 9) .bool [8, 6] (.load none (.t 8))<|
.nil) 10 6 9<|
.m 11 10<|
.gA 11 true (.p 12 [1, 11] (.faddr 0 (.t 1))<|
.p 13 [12, 11] (.faddr 2 (.t 12))<|
.op (some 14) .bool [13, 11] (.load none (.t 13))<|
.nil) 15 11 14<|
.m 2 15<|
.nil)
 .ret))
def A235 : XFn := ⟨16, [y4], [(.tmp 2)], C235_0⟩
def C236_0 : XC := (.z (.P 1 (.box 266 (.t 0))<|
.c 2 y3<|
.nil)
 (.z (.O 3 y4 (.load (some 6) (.t 1))<|
.k 4 .bool 235 [(.t 3)]<|
.m 5 4<|
.gA 5 true (.p 6 [1, 5] (.faddr 0 (.t 1))<|
.p 7 [6, 5] (.faddr 4 (.t 6))<|
.op (some 8) .i [7, 5] (.load none (.t 7))<|
.p 9 [1, 5] (.faddr 0 (.t 1))<|
.p 10 [9, 5] (.faddr 5 (.t 9))<|
.op (some 11) .i [10, 5] (.load none (.t 10))<|
.p 12 [8, 11, 5] (.bin .gtr .none (.t 8) (.t 11))<|
.nil) 13 5 12<|
.m 2 13<|
.nil)
 .ret))
def A236 : XFn := ⟨14, [y4], [(.tmp 2)], C236_0⟩
def C237_0 : XC := (.z (.q 2 0<|
.nil)
 (.z (.m 3 0<|
.k 4 .i 290 [(.t 3)]<|
.m 2 4<|
.nil)
 .ret))
def A237 : XFn := ⟨5, [(.int .u64)], [(.tmp 2)], C237_0⟩
def C239_0 : XC := (.z (.P 2 (.box 30 (.t 0))<|
.pal 4 [] 145 [y0, V.nils, y3, y3, y3, y3, y0, y0, V.nils, V.nils, y0, y3, y0]<|
.nil)
 (.seq (.z (.m 5 1<|
.b 6 .lss .none (.t 5) (.i 0)<|
.m 7 6<|
.gO 7 false (.p 8 [1, 7] y17<|
.p 9 [2, 7] (.faddr 3 (.t 2))<|
.p 10 [9, 7] (.load none (.t 9))<|
.p 11 [10, 7] (.len false (.t 10))<|
.p 12 [8, 11, 7] (.bin .geq .none (.t 8) (.t 11))<|
.nil) 13 7 12<|
.nil)
 (.cond (.tmp 13) (.z (.op (some 14) y1 [] (.build [y0, V.nils, y3, y3, y3, y3, y0, y0, V.nils, V.nils, y0, y3, y0] [])<|
.op none y1 [4, 14] (.store 13 (.t 4) (.t 14))<|
.nil)
 .ret)
 .skip))
 (.z (.f 15 3 2<|
.l 16 .any 15<|
.m 17 1<|
.s 18 13 16 17<|
.O 19 y1 (.load (some 13) (.t 18))<|
.op none y1 [4, 19] (.store 13 (.t 4) (.t 19))<|
.nil)
 .ret)))
def A239 : XFn := ⟨20, [y7, .i], [(.cell 4 (some 13))], C239_0⟩
def C243_0 (cc1 : XC) (cc2 : XC) : XC := (.z (.c 4 V.nils<|
.nil)
 (.z (.c 5 V.nils<|
.nil)
 (.seq (.z (.m 7 0<|
.m 6 7<|
.nil)
 (.block 0 (.loop [(1, .i), (5, .any), (6, .i)] [] [] cc2)))
 (.keep [(5, .any)] [] [] cc1))))
def C243_1 : XC := (.z (.m 17 5<|
.m 4 17<|
.nil)
 .ret)
def C243_2 : XC := (.seq (.z (.m 8 6<|
.m 9 1<|
.b 10 .lss .none (.t 8) (.t 9)<|
.nil)
 (.cond (.tmp 10) .skip
 y23))
 (.seq (.block 1 (.ops (.m 13 5<|
.m 14 6<|
.p 15 [14] (.buildSlice 3 1 [y0] [(0, 1, (.t 14))])<|
.O 16 .one (.append 3 1 8 (.t 13) (.t 15))<|
.m 5 16<|
.nil)))
 (.ops (.m 11 6<|
.b 12 .add .none (.t 11) (.i 1)<|
.m 6 12<|
.nil))))
def A243 : XFn := ⟨18, [.i, .i], [(.tmp 4)], (C243_0 C243_1 C243_2)⟩
def Fin244 (E : List (Nat × Blk)) : St → Ans := fun s => resK E s [(.tmp 2), (.tmp 3)] fun l => some (oneV l, s.σ)
def C244_0 : XC := (.z (.q 2 0<|
.c 3 y3<|
.nil)
 (.seq (.z (.m 4 0<|
.b 5 .lss .none (.t 4) (.i 16384)<|
.nil)
 (.cond (.tmp 5) (.z (.m 6 0<|
.m 2 6<|
.c 3 y3<|
.nil)
 .ret)
 .skip))
 (.z (.m 7 0<|
.b 8 .quo .none (.t 7) (.i 16384)<|
.p 9 [8] (.min (.t 8) [(.i 4)])<|
.b 10 .mul .none (.t 9) (.i 16384)<|
.m 2 10<|
.c 3 y37<|
.nil)
 .ret)))
def T244_0 (E : List (Nat × Blk)) (D : Den) (W : DrawFn) (a : Int) (σ : H) : Ans :=
 condK (ltF a (Int.ofNat 16384)) (
 some ((V.tup [(V.int .i64 a), (V.bool false)]), σ)) (
 some ((V.tup [(V.int .i64 (mulF .i64 (minF (quoF .i64 a (Int.ofNat 16384)) (Int.ofNat 4)) (Int.ofNat 16384))), (V.bool true)]), σ))
def S244_0 (a : Int) (σ : H) : St := ⟨[(0, (V.int .i64 a))], [], [], σ⟩
theorem P244_0 (a : Int) (σ : H) :
 denC E D W N (C244_0 ) (S244_0 a σ) (Fin244 E) nX (Fin244 E) =
 T244_0 E D W  a σ := by kernel_rfl
def J244_0 (E : List (Nat × Blk)) (D : Den) (W : DrawFn) (N : Nat) := T244_0 E D W
theorem JE244_0 (a : Int) (σ : H) :
 denC E D W N C244_0 (S244_0 a σ) (Fin244 E) nX (Fin244 E) = J244_0 E D W N a σ := by
 refine (P244_0 E D W N   a σ).trans ?_
 kernel_rfl
def F244 (args : List V) (σ : H) : Ans :=
 xcI .i64 args fun x3 l2 =>
 rtNil l2 (
 J244_0 E D W N x3 σ)
def A244 : XFn := ⟨11, [.i], [(.tmp 2), (.tmp 3)], C244_0⟩
theorem FE244 (args : List V) (σ : H) : runX E D W N A244 args σ = F244 E D W N args σ := by
 unfold F244
 simp only [← JE244_0]
 kernel_rfl
def q248a : List (Nat × XTy) := [(0, .any), (1, .any), (7, .i), (8, .i)]
def Fin248 (E : List (Nat × Blk)) : St → Ans := fun s => resK E s [(.tmp 4)] fun l => some (oneV l, s.σ)
def b248a (c0 : XC) : Nat → St → Ans := blkK 0 (dX E D W N (.keep [] [] [] c0) (Fin248 E) nX (Fin248 E)) nX
def C248_0 (cc1 : XC) (cc2 : XC) : XC := (.z (.q 4 0<|
.nil)
 (.seq (.z (.m 6 0<|
.u 7 6<|
.q 8 0<|
.nil)
 (.block 0 (.loop q248a [] [] cc2)))
 (.keep [] [] [] cc1)))
def T248_0 (E : List (Nat × Blk)) (D : Den) (W : DrawFn) (K2 : V → V → Int → Int → H → Ans) (a b : V) (σ : H) : Ans :=
 slenK a fun n1 =>
 K2 a b (Int.ofNat n1) (Int.ofNat 0) σ
def C248_1 : XC := (.z (.c 4 y20<|
.nil)
 .ret)
def T248_1 (E : List (Nat × Blk)) (D : Den) (W : DrawFn) (σ : H) : Ans :=
 some ((V.int .i64 (Int.negSucc 0)), σ)
def C248_2 : XC := (.z (.b 9 .lss .none (.t 8) (.t 7)<|
.nil)
 (.seq y15
 (.seq (.block 1 (.z (.m 10 8<|
.m 5 10<|
.nil)
 (.z (.m 11 1<|
.m 12 0<|
.m 13 5<|
.s 14 1 12 13<|
.l 15 .i 14<|
.O 16 .bool (.callv (.t 11) [(.t 15)])<|
.nil)
 y24)))
 y26)))
def T248_2 (E : List (Nat × Blk)) (D : Den) (W : DrawFn) (K1 : H → Ans) (R2 : V → V → Int → Int → H → Ans) (a b : V) (c d : Int) (σ : H) : Ans :=
 condK (ltF d c) (
 iaddrSK 1 a d fun b1 o2 =>
 ldK E σ b1 o2 fun u3 =>
 rtInt .i64 u3 fun x4 =>
 callvK D b [(V.int .i64 x4)] σ fun u5 s6 =>
 rtBool u5 fun x7 =>
 condK x7 (
 some ((V.int .i64 d), s6)) (
 R2 a b c (addF .i64 d (Int.ofNat 1)) s6)) (
 K1 σ)
def S248_0 (a b : V) (σ : H) : St := ⟨[(0, a), (1, b)], [], [], σ⟩
def S248_1 (σ : H) : St := ⟨[], [], [], σ⟩
def S248_2 (a b : V) (c d : Int) (σ : H) : St := ⟨[(0, a), (1, b), (7, (V.int .i64 c)), (8, (V.int .i64 d))], [], [], σ⟩
theorem P248_0 (cc1 : XC) (cc2 : XC) (a b : V) (σ : H) :
 denC E D W N (C248_0 cc1 cc2) (S248_0 a b σ) (Fin248 E) nX (Fin248 E) =
 T248_0 E D W (fun a b c d σ => iterK (fun rec s' => denC E D W N cc2 s' (kX q248a [] [] rec) (b248a E D W N cc1) (Fin248 E)) N (S248_2 a b c d σ)) a b σ := by kernel_rfl
theorem P248_1 (σ : H) :
 denC E D W N (C248_1 ) (S248_1 σ) (Fin248 E) nX (Fin248 E) =
 T248_1 E D W   σ := by kernel_rfl
theorem P248_2 (cc1 : XC) (li2 : St → Ans) (a b : V) (c d : Int) (σ : H) :
 denC E D W N (C248_2 ) (S248_2 a b c d σ) (kX q248a [] [] li2) (b248a E D W N cc1) (Fin248 E) =
 T248_2 E D W (fun  σ => denC E D W N cc1 (S248_1 σ) (Fin248 E) nX (Fin248 E)) (fun a b c d σ => li2 (S248_2 a b c d σ)) a b c d σ := by kernel_rfl
def J248_1 (E : List (Nat × Blk)) (D : Den) (W : DrawFn) (N : Nat) := T248_1 E D W
theorem JE248_1 (σ : H) :
 denC E D W N C248_1 (S248_1 σ) (Fin248 E) nX (Fin248 E) = J248_1 E D W N  σ := by
 refine (P248_1 E D W N    σ).trans ?_
 kernel_rfl
def L248_2 (n : Nat) : V → V → Int → Int → H → Ans :=
 Nat.rec (fun _ _ _ _ _ => none) (fun _ ih => T248_2 E D W (J248_1 E D W N ) ih) n
theorem LE248_2 (n : Nat) : ∀ (a b : V) (c d : Int) (σ : H),
 iterK (fun rec s' => denC E D W N C248_2 s' (kX q248a [] [] rec) (b248a E D W N C248_1) (Fin248 E)) n (S248_2 a b c d σ) = L248_2 E D W N n a b c d σ := by
 induction n with
 | zero => intro a b c d σ; rfl
 | succ n ihn =>
  intro a b c d σ
  rw [iterK_succ]
  refine (P248_2 E D W N C248_1 (iterK (fun rec s' => denC E D W N C248_2 s' (kX q248a [] [] rec) (b248a E D W N C248_1) (Fin248 E)) n) a b c d σ).trans ?_
  simp only [ihn, JE248_1]
  kernel_rfl
def J248_0 := T248_0 E D W (L248_2 E D W N N)
theorem JE248_0 (a b : V) (σ : H) :
 denC E D W N (C248_0 C248_1 C248_2) (S248_0 a b σ) (Fin248 E) nX (Fin248 E) = J248_0 E D W N a b σ := by
 refine (P248_0 E D W N C248_1 C248_2  a b σ).trans ?_
 simp only [LE248_2]
 kernel_rfl
def F248 (args : List V) (σ : H) : Ans :=
 rtCons args fun x1 l2 =>
 rtCons l2 fun x3 l4 =>
 rtNil l4 (
 J248_0 E D W N x1 x3 σ)
def A248 : XFn := ⟨19, y32, [(.tmp 4)], (C248_0 C248_1 C248_2)⟩
theorem FE248 (args : List V) (σ : H) : runX E D W N A248 args σ = F248 E D W N args σ := by
 unfold F248
 simp only [← JE248_0]
 kernel_rfl
def q249a : List (Nat × XTy) := [(0, .any), (1, .bool), (7, .i), (8, .i)]
def Fin249 (E : List (Nat × Blk)) : St → Ans := fun s => resK E s [(.tmp 4)] fun l => some (oneV l, s.σ)
def b249a (c0 : XC) : Nat → St → Ans := blkK 0 (dX E D W N (.keep [] [] [] c0) (Fin249 E) nX (Fin249 E)) nX
def C249_0 (cc1 : XC) (cc2 : XC) : XC := (.z (.q 4 0<|
.nil)
 (.seq (.z (.m 6 0<|
.u 7 6<|
.q 8 0<|
.nil)
 (.block 0 (.loop q249a [] [] cc2)))
 (.keep [] [] [] cc1)))
def T249_0 (E : List (Nat × Blk)) (D : Den) (W : DrawFn) (K2 : V → Bool → Int → Int → H → Ans) (a : V) (b : Bool) (σ : H) : Ans :=
 slenK a fun n1 =>
 K2 a b (Int.ofNat n1) (Int.ofNat 0) σ
def C249_1 : XC := (.z (.c 4 y20<|
.nil)
 .ret)
def T249_1 (E : List (Nat × Blk)) (D : Den) (W : DrawFn) (σ : H) : Ans :=
 some ((V.int .i64 (Int.negSucc 0)), σ)
def C249_2 : XC := (.z (.b 9 .lss .none (.t 8) (.t 7)<|
.nil)
 (.seq y15
 (.seq (.block 1 (.z (.m 10 8<|
.m 5 10<|
.nil)
 (.z (.m 11 1<|
.m 12 0<|
.m 13 5<|
.s 14 1 12 13<|
.l 15 .bool 14<|
.b 16 .eql .bool (.t 11) (.t 15)<|
.nil)
 y24)))
 y26)))
def T249_2 (E : List (Nat × Blk)) (D : Den) (W : DrawFn) (K1 : H → Ans) (R2 : V → Bool → Int → Int → H → Ans) (a : V) (b : Bool) (c d : Int) (σ : H) : Ans :=
 condK (ltF d c) (
 iaddrSK 1 a d fun b1 o2 =>
 ldK E σ b1 o2 fun u3 =>
 rtBool u3 fun x4 =>
 eqK .bool (V.bool b) (V.bool x4) fun c5 =>
 condK c5 (
 some ((V.int .i64 d), σ)) (
 R2 a b c (addF .i64 d (Int.ofNat 1)) σ)) (
 K1 σ)
def S249_0 (a : V) (b : Bool) (σ : H) : St := ⟨[(0, a), (1, (V.bool b))], [], [], σ⟩
def S249_1 (σ : H) : St := ⟨[], [], [], σ⟩
def S249_2 (a : V) (b : Bool) (c d : Int) (σ : H) : St := ⟨[(0, a), (1, (V.bool b)), (7, (V.int .i64 c)), (8, (V.int .i64 d))], [], [], σ⟩
theorem P249_0 (cc1 : XC) (cc2 : XC) (a : V) (b : Bool) (σ : H) :
 denC E D W N (C249_0 cc1 cc2) (S249_0 a b σ) (Fin249 E) nX (Fin249 E) =
 T249_0 E D W (fun a b c d σ => iterK (fun rec s' => denC E D W N cc2 s' (kX q249a [] [] rec) (b249a E D W N cc1) (Fin249 E)) N (S249_2 a b c d σ)) a b σ := by kernel_rfl
theorem P249_1 (σ : H) :
 denC E D W N (C249_1 ) (S249_1 σ) (Fin249 E) nX (Fin249 E) =
 T249_1 E D W   σ := by kernel_rfl
theorem P249_2 (cc1 : XC) (li2 : St → Ans) (a : V) (b : Bool) (c d : Int) (σ : H) :
 denC E D W N (C249_2 ) (S249_2 a b c d σ) (kX q249a [] [] li2) (b249a E D W N cc1) (Fin249 E) =
 T249_2 E D W (fun  σ => denC E D W N cc1 (S249_1 σ) (Fin249 E) nX (Fin249 E)) (fun a b c d σ => li2 (S249_2 a b c d σ)) a b c d σ := by kernel_rfl
def J249_1 (E : List (Nat × Blk)) (D : Den) (W : DrawFn) (N : Nat) := T249_1 E D W
theorem JE249_1 (σ : H) :
 denC E D W N C249_1 (S249_1 σ) (Fin249 E) nX (Fin249 E) = J249_1 E D W N  σ := by
 refine (P249_1 E D W N    σ).trans ?_
 kernel_rfl
def L249_2 (n : Nat) : V → Bool → Int → Int → H → Ans :=
 Nat.rec (fun _ _ _ _ _ => none) (fun _ ih => T249_2 E D W (J249_1 E D W N ) ih) n
theorem LE249_2 (n : Nat) : ∀ (a : V) (b : Bool) (c d : Int) (σ : H),
 iterK (fun rec s' => denC E D W N C249_2 s' (kX q249a [] [] rec) (b249a E D W N C249_1) (Fin249 E)) n (S249_2 a b c d σ) = L249_2 E D W N n a b c d σ := by
 induction n with
 | zero => intro a b c d σ; rfl
 | succ n ihn =>
  intro a b c d σ
  rw [iterK_succ]
  refine (P249_2 E D W N C249_1 (iterK (fun rec s' => denC E D W N C249_2 s' (kX q249a [] [] rec) (b249a E D W N C249_1) (Fin249 E)) n) a b c d σ).trans ?_
  simp only [ihn, JE249_1]
  kernel_rfl
def J249_0 := T249_0 E D W (L249_2 E D W N N)
theorem JE249_0 (a : V) (b : Bool) (σ : H) :
 denC E D W N (C249_0 C249_1 C249_2) (S249_0 a b σ) (Fin249 E) nX (Fin249 E) = J249_0 E D W N a b σ := by
 refine (P249_0 E D W N C249_1 C249_2  a b σ).trans ?_
 simp only [LE249_2]
 kernel_rfl
def F249 (args : List V) (σ : H) : Ans :=
 rtCons args fun x1 l2 =>
 xcB l2 fun x5 l4 =>
 rtNil l4 (
 J249_0 E D W N x1 x5 σ)
def A249 : XFn := ⟨19, [.any, .bool], [(.tmp 4)], (C249_0 C249_1 C249_2)⟩
theorem FE249 (args : List V) (σ : H) : runX E D W N A249 args σ = F249 E D W N args σ := by
 unfold F249
 simp only [← JE249_0]
 kernel_rfl
def Fin252 (E : List (Nat × Blk)) : St → Ans := fun s => resK E s [] fun l => some (oneV l, s.σ)
def C252_0 : XC := (.draw (.m 5 0<|
.f 6 1 1<|
.l 7 .i 6<|
.f 8 3 2<|
.l 9 .any 8<|
.l 10 .any 3<|
.P 11 (.iaddrS 1 (.t 10) (.i 0))<|
.l 12 .i 11<|
.s 13 6 9 12<|
.O 14 y2 (.load (some 6) (.t 13))<|
.k 15 y10 39 [(.t 5), (.t 7), (.t 14)]<|
.nil) [0, 0, 2, 0, 8, 0, 32, 96, 248, 504, 1023])
def T252_0 (E : List (Nat × Blk)) (D : Den) (W : DrawFn) (a b c d : V) (σ : H) : Ans :=
 rtPtr b fun b1 o2 =>
 ldK E σ b1 (Nat.add o2 1) fun u3 =>
 rtInt .i64 u3 fun x4 =>
 rtPtr c fun b5 o6 =>
 ldK E σ b5 (Nat.add o6 3) fun u7 =>
 rtPtr d fun b8 o9 =>
 ldK E σ b8 o9 fun u10 =>
 iaddrSK 1 u10 (Int.ofNat 0) fun b11 o12 =>
 ldK E σ b11 o12 fun u13 =>
 rtInt .i64 u13 fun x14 =>
 iaddrSK 6 u7 x14 fun b15 o16 =>
 ldnK E σ b15 o16 6 fun l17 =>
 xcI .i64 l17 fun x20 l19 =>
 xcI .i64 l19 fun x23 l22 =>
 rtCons l22 fun x24 l25 =>
 rtCons l25 fun x26 l27 =>
 xcI .i64 l27 fun x30 l29 =>
 rtCons l29 fun x31 l32 =>
 rtNil l32 (
 callK (D 39 [a, (V.int .i64 x4), (V.agg [(V.int .i64 x20), (V.int .i64 x23), x24, x26, (V.int .i64 x30), x31])] σ) fun u33 s34 =>
 rtTup u33 fun l35 =>
 rtNil l35 (
 some ((V.tup []), s34)))
def S252_0 (a b c d : V) (σ : H) : St := ⟨[(0, a), (1, b), (2, c), (3, d)], [], [], σ⟩
theorem P252_0 (a b c d : V) (σ : H) :
 denC E D W N (C252_0 ) (S252_0 a b c d σ) (Fin252 E) nX (Fin252 E) =
 T252_0 E D W  a b c d σ := by kernel_rfl
def J252_0 (E : List (Nat × Blk)) (D : Den) (W : DrawFn) (N : Nat) := T252_0 E D W
theorem JE252_0 (a b c d : V) (σ : H) :
 denC E D W N C252_0 (S252_0 a b c d σ) (Fin252 E) nX (Fin252 E) = J252_0 E D W N a b c d σ := by
 refine (P252_0 E D W N   a b c d σ).trans ?_
 kernel_rfl
def F252 (args : List V) (σ : H) : Ans :=
 rtCons args fun x1 l2 =>
 rtCons l2 fun x3 l4 =>
 rtCons l4 fun x5 l6 =>
 rtCons l6 fun x7 l8 =>
 rtNil l8 (
 J252_0 E D W N x1 x3 x5 x7 σ)
def A252 : XFn := ⟨16, [.any, .any, .any, .any], [], C252_0⟩
theorem FE252 (args : List V) (σ : H) : runX E D W N A252 args σ = F252 E D W N args σ := by
 unfold F252
 simp only [← JE252_0]
 kernel_rfl
def Fin260 (E : List (Nat × Blk)) : St → Ans := fun s => resK E s [(.tmp 2)] fun l => some (oneV l, s.σ)
def C260_0 : XC := (.z (.q 2 0<|
.nil)
 (.z (.m 3 0<|
.p 4 [3] (.min (.t 3) [(.i 32)])<|
.p 5 [4] (.max (.i 0) [(.t 4)])<|
.m 2 5<|
.nil)
 .ret))
def T260_0 (E : List (Nat × Blk)) (D : Den) (W : DrawFn) (a : Int) (σ : H) : Ans :=
 some ((V.int .i64 (maxF (Int.ofNat 0) (minF a (Int.ofNat 32)))), σ)
def S260_0 (a : Int) (σ : H) : St := ⟨[(0, (V.int .i64 a))], [], [], σ⟩
theorem P260_0 (a : Int) (σ : H) :
 denC E D W N (C260_0 ) (S260_0 a σ) (Fin260 E) nX (Fin260 E) =
 T260_0 E D W  a σ := by kernel_rfl
def J260_0 (E : List (Nat × Blk)) (D : Den) (W : DrawFn) (N : Nat) := T260_0 E D W
theorem JE260_0 (a : Int) (σ : H) :
 denC E D W N C260_0 (S260_0 a σ) (Fin260 E) nX (Fin260 E) = J260_0 E D W N a σ := by
 refine (P260_0 E D W N   a σ).trans ?_
 kernel_rfl
def F260 (args : List V) (σ : H) : Ans :=
 xcI .i64 args fun x3 l2 =>
 rtNil l2 (
 J260_0 E D W N x3 σ)
def A260 : XFn := ⟨6, [.i], [(.tmp 2)], C260_0⟩
theorem FE260 (args : List V) (σ : H) : runX E D W N A260 args σ = F260 E D W N args σ := by
 unfold F260
 simp only [← JE260_0]
 kernel_rfl
def C274_0 : XC := (.z (.c 0 V.nils<|
.nil)
 (.z (.p 1 [] (.buildSlice 9 25 [y6, y6, y6, y6, y6, y6, y6, y6, y6, y6, y6, y6, y6, y6, y6, y6, y6, y6, y6, y6, y6, y6, y6, y6, y6] [(0, 1, (.con (V.str ⟨11, 100710650190388740279911748⟩))), (1, 1, y42), (2, 1, y43), (3, 1, (.con (V.str ⟨9, 1241215773001651606849⟩))), (4, 1, y38), (5, 1, (.con (V.str ⟨5, 336236856642⟩))), (6, 1, (.con (V.str ⟨3, 4476485⟩))), (7, 1, (.con (V.str ⟨7, 22026814072246082⟩))), (8, 1, (.con (V.str ⟨7, 23157120498421321⟩))), (9, 1, y36), (10, 1, (.con (V.str ⟨4, 1280070990⟩))), (11, 1, (.con (V.str ⟨5, 361940403023⟩))), (12, 1, (.con (V.str ⟨6, 78401563153491⟩))), (13, 1, y35), (14, 1, y44), (15, 1, (.con (V.str ⟨3, 5522771⟩))), (16, 1, (.con (V.str ⟨6, 76155295057987⟩))), (17, 1, (.con (V.str ⟨2, 17999⟩))), (18, 1, (.con (V.str ⟨8, 5494759122808361039⟩))), (19, 1, (.con (V.str ⟨7, 23727827094750532⟩))), (20, 1, (.con (V.str ⟨4, 1163544915⟩))), (21, 1, (.con (V.str ⟨3, 5130573⟩))), (22, 1, (.con (V.str ⟨3, 5783885⟩))), (23, 1, (.con (V.str ⟨4, 1163219540⟩))), (24, 1, (.con (V.str ⟨5, 297750249798⟩)))])<|
.m 0 1<|
.nil)
 .ret))
def A274 : XFn := ⟨2, [], [(.tmp 0)], C274_0⟩
def G276_0 : List AOper := [⟨(some 35), .mov (.tmp 1), none⟩, ⟨(some 36), .mov (.tmp 1), none⟩, ⟨(some 37), .nilck (.tmp 36), none⟩, ⟨(some 38), .faddr 12 (.tmp 37), none⟩, ⟨(some 39), .load none (.tmp 38), none⟩, ⟨(some 40), .load (some 11) (.tmp 8), none⟩, ⟨(some 41), .buildSlice 200 1 [(V.str ⟨0, 0⟩), (V.int .i64 (Int.ofNat 0)), (V.bool false), (V.bool false), (V.int .i64 (Int.ofNat 0)), (V.int .i64 (Int.ofNat 0)), V.nils, V.nils, (V.int .i64 (Int.ofNat 0)), V.nils, (V.int .i64 (Int.ofNat 0))] [(0, 11, (.tmp 40))], none⟩, ⟨(some 42), .append 200 11 136 (.tmp 39) (.tmp 41), none⟩, ⟨(some 43), .nilck (.tmp 35), none⟩, ⟨(some 44), .faddr 12 (.tmp 43), none⟩, ⟨none, .store 1 (.tmp 44) (.tmp 42), none⟩]
def H276_0 : List DP := [⟨0, [1]⟩, ⟨0, [1]⟩, ⟨2, [36]⟩, ⟨6, [37]⟩, ⟨14, [38]⟩, ⟨0, [8]⟩, ⟨32, [40]⟩, ⟨126, [39, 41]⟩, ⟨255, [35]⟩, ⟨511, [43]⟩, ⟨1023, [44, 42]⟩]
def C276_0 (cc1 : XC) : XC := (.z (.m 9 0<|
.k 10 .str 57 [(.t 9), (.i 2)]<|
.m 11 3<|
.op (some 12) y9 [10, 11] (.build [y6, y0, y3, y3, y0, y0, V.nils, V.nils, y0, V.nils, y0] [(0, 1, (.t 10)), (10, 1, (.t 11))])<|
.p 8 [] (.alloc 200 [y6, y0, y3, y3, y0, y0, V.nils, V.nils, y0, V.nils, y0])<|
.op none y9 [8, 12] (.store 11 (.t 8) (.t 12))<|
.nil)
 (.z (.m 13 0<|
.m 14 2<|
.b 15 .add .none (.t 14) (.i 1)<|
.k 16 .i 62 [(.t 13), (.t 15)]<|
.f 17 1 8<|
.w 1 17 16<|
.nil)
 (.seq (.block 0 (.z (.m 19 1<|
.n 20 19<|
.f 21 0 20<|
.l 22 .i 21<|
.b 23 .eql .none (.t 22) (.i 9)<|
.m 18 23<|
.nil)
 (.cond (.tmp 18) .skip
 (.z (.m 25 0<|
.k 26 .bool 59 [(.t 25), (.con (V.str ⟨8, 5494759122808361039⟩))]<|
.m 24 26<|
.nil)
 (.cond (.tmp 24) (.ops (.f 27 2 8<|
.op none .any [27] (.store 1 (.t 27) y12)<|
.nil))
 (.z (.m 29 0<|
.k 30 .bool 59 [(.t 29), (.con (V.str ⟨7, 23727827094750532⟩))]<|
.m 28 30<|
.nil)
 (.cond (.tmp 28) (.ops (.m 31 0<|
.k 32 y2 300 [(.t 31)]<|
.f 33 3 8<|
.op none .any [33] (.store 1 (.t 33) y12)<|
.f 34 4 8<|
.op none y2 [34, 32] (.store 6 (.t 34) (.t 32))<|
.nil))
 .skip)))))))
 (.keep [(1, .ptr), (8, .ptr)] [] [] cc1))))
def C276_1 : XC := (.keep [(1, .ptr), (8, .ptr)] [] [] (.gdraw G276_0 H276_0 []))
def A276 : XFn := ⟨45, [.any, .ptr, .i, .i], [], (C276_0 C276_1)⟩
def G279_0 : List AOper := [⟨(some 59), .faddr 11 (.tmp 3), none⟩, ⟨(some 60), .load none (.tmp 59), none⟩, ⟨(some 61), .un .not (.tmp 60), none⟩, ⟨(some 62), .mov (.tmp 61), none⟩, ⟨(some 63), .mov (.tmp 0), (some (62, false))⟩, ⟨(some 64), .faddr 9 (.tmp 3), (some (62, false))⟩, ⟨(some 65), .load none (.tmp 64), (some (62, false))⟩, ⟨(some 66), .load (some 13) (.tmp 3), (some (62, false))⟩, ⟨(some 67), .call 294 [(.tmp 66)], (some (62, false))⟩, ⟨(some 68), .sliceSl 11 (.tmp 65) (some (.tmp 67)) none none, (some (62, false))⟩, ⟨(some 69), .call 301 [(.tmp 63), (.tmp 68), (.con (V.bool true))], (some (62, false))⟩, ⟨(some 70), .pick (.tmp 62) (.con (V.bool true)) (.tmp 69), none⟩, ⟨(some 4), .mov (.tmp 70), none⟩]
def H279_0 : List DP := [⟨0, [3]⟩, ⟨1, [59]⟩, ⟨3, [60]⟩, ⟨7, [61]⟩, ⟨15, [0, 62]⟩, ⟨15, [3, 62]⟩, ⟨47, [64, 62]⟩, ⟨15, [3, 62]⟩, ⟨143, [66, 62]⟩, ⟨495, [65, 67, 62]⟩, ⟨1023, [63, 68, 62]⟩, ⟨2047, [62, 69]⟩, ⟨4095, [70]⟩]
def C279_0 (cc1 : XC) (cc2 : XC) : XC := (.z (.P 3 (.box 145 (.t 1))<|
.c 4 y3<|
.nil)
 (.seq (.z (.f 8 0 3<|
.l 9 .i 8<|
.b 10 .neq .none (.t 9) (.i 7)<|
.nil)
 (.cond (.tmp 10) (.z (.m 11 0<|
.f 12 9 3<|
.l 13 .any 12<|
.f 14 11 3<|
.l 15 .bool 14<|
.k 16 .bool 301 [(.t 11), (.t 13), (.t 15)]<|
.m 4 16<|
.nil)
 .ret)
 .skip))
 (.z (.O 17 y1 (.load (some 13) (.t 3))<|
.k 18 .one 302 [(.t 17)]<|
.m 5 18<|
.nil)
 (.seq (.z (.q 6 0<|
.nil)
 (.block 0 (.loop [(0, .any), (3, .ptr), (5, .any), (6, .i)] [] [] cc2)))
 (.keep [(0, .any), (3, .ptr)] [] [] cc1)))))
def C279_1 : XC := (.seq (.keep [(0, .any), (3, .ptr)] [] [] (.gdraw G279_0 H279_0 [(4, .bool)]))
 .ret)
def C279_2 (cc3 : XC) (cc4 : XC) (cc5 : XC) : XC := (.seq (.z (.m 19 6<|
.f 20 9 3<|
.l 21 .any 20<|
.u 22 21<|
.b 23 .lss .none (.t 19) (.t 22)<|
.nil)
 (.cond (.tmp 23) .skip
 y23))
 (.seq (.block 1 (.seq (.z (.m 26 5<|
.m 27 6<|
.s 28 1 26 27<|
.l 29 .bool 28<|
.P 30 (.un .not (.t 29))<|
.nil)
 (.cond (.tmp 30) (.exit 1)
 .skip))
 (.z (.m 31 6<|
.b 32 .add .none (.t 31) (.i 1)<|
.m 7 32<|
.nil)
 (.seq (.block 2 (.loop [(0, .any), (3, .ptr), (5, .any), (6, .i), (7, .i)] [] [] cc5))
 (.keep [(0, .any), (3, .ptr), (5, .any), (6, .i), (7, .i)] [] [] cc4)))))
 (.keep [(0, .any), (3, .ptr), (5, .any), (6, .i)] [] [] cc3)))
def C279_3 : XC := (.ops (.m 24 6<|
.b 25 .add .none (.t 24) (.i 1)<|
.m 6 25<|
.nil))
def C279_4 : XC := (.z (.m 46 0<|
.f 47 9 3<|
.l 48 .any 47<|
.m 49 6<|
.m 50 7<|
.b 51 .add .none (.t 50) (.i 1)<|
.f 52 9 3<|
.l 53 .any 52<|
.u 54 53<|
.p 55 [51, 54] (.min (.t 51) [(.t 54)])<|
.p 56 [48, 49, 55] (.sliceSl 11 (.t 48) (some (.t 49)) (some (.t 55)) none)<|
.k 57 .bool 301 [(.t 46), (.t 56), y33]<|
.P 58 (.un .not (.t 57))<|
.nil)
 (.cond (.tmp 58) (.z (.c 4 y3<|
.nil)
 .ret)
 .skip))
def C279_5 : XC := (.seq (.z (.m 33 7<|
.f 34 9 3<|
.l 35 .any 34<|
.u 36 35<|
.b 37 .lss .none (.t 33) (.t 36)<|
.m 38 37<|
.gA 38 true (.p 39 [5, 38] (.mov (.t 5))<|
.p 40 [7, 38] (.mov (.t 7))<|
.p 41 [39, 40, 38] (.iaddrS 1 (.t 39) (.t 40))<|
.op (some 42) .bool [41, 38] (.load none (.t 41))<|
.nil) 43 38 42<|
.nil)
 (.cond (.tmp 43) .skip
 (.exit 2)))
 (.block 3 (.ops (.m 44 7<|
.b 45 .add .none (.t 44) (.i 1)<|
.m 7 45<|
.nil))))
def A279 : XFn := ⟨71, [.any, y1], [(.tmp 4)], (C279_0 C279_1 (C279_2 C279_3 C279_4 C279_5))⟩
def q289a : List (Nat × XTy) := [(0, .ptr), (1, .any), (2, .bool), (7, .any), (8, .i)]
def Fin289 (E : List (Nat × Blk)) : St → Ans := fun s => resK E s [] fun l => some (oneV l, s.σ)
def C289_0 (cc1 : XC) : XC := (.seq (.z (.m 4 0<|
.b 5 .eql .ptr (.t 4) (.con V.nilp)<|
.nil)
 (.cond (.tmp 5) .ret
 .skip))
 (.seq (.z (.m 6 0<|
.n 7 6<|
.f 8 1 7<|
.l 9 .i 8<|
.b 10 .rem .none (.t 9) (.i 8)<|
.b 11 .eql .none (.t 10) (.i 0)<|
.nil)
 (.cond (.tmp 11) (.ops (.m 12 0<|
.m 13 0<|
.n 14 13<|
.f 15 0 14<|
.l 16 .any 15<|
.p 17 [] y13<|
.O 18 .one (.append 5 1 1 (.t 16) (.t 17))<|
.n 19 12<|
.f 20 0 19<|
.w 1 20 18<|
.nil))
 .skip))
 (.keep [(0, .any), (1, .i)] [] [] cc1)))
def T289_0 (E : List (Nat × Blk)) (D : Den) (W : DrawFn) (K1 : V → Int → H → Ans) (a : V) (b : Int) (σ : H) : Ans :=
 eqK .ptr a V.nilp fun c1 =>
 condK c1 (
 some ((V.tup []), σ)) (
 rtPtr a fun b2 o3 =>
 ldK E σ b2 (Nat.add o3 1) fun u4 =>
 rtInt .i64 u4 fun x5 =>
 condK (eqF (Int.tmod x5 (Int.ofNat 8)) (Int.ofNat 0)) (
 rtPtr a fun b6 o7 =>
 ldK E σ b6 o7 fun u8 =>
 let s9 := newB σ (.cells [(V.int .u8 (Int.ofNat 0))]);
 appK E 1 1 u8 (V.sl (H.next σ) 0 1 (.ex 1)) s9 fun u10 s11 =>
 rtOne u10 (
 rtPtr a fun b12 o13 =>
 stK 1 b12 o13 u10 s11 fun s14 =>
 K1 a b s14)) (
 K1 a b σ))
def C289_1 (cc2 : XC) : XC := (.seq (.z (.m 21 1<|
.b 22 .neq .none (.t 21) (.i 0)<|
.nil)
 (.cond (.tmp 22) (.draw (.m 23 0<|
.n 24 23<|
.f 25 0 24<|
.l 26 .any 25<|
.m 27 0<|
.n 28 27<|
.f 29 1 28<|
.l 30 .i 29<|
.b 31 .quo .none (.t 30) (.i 8)<|
.s 32 1 26 31<|
.l 33 (.int .u8) 32<|
.m 34 0<|
.n 35 34<|
.f 36 1 35<|
.l 37 .i 36<|
.b 38 .rem .none (.t 37) (.i 8)<|
.b 39 .shr .none (.con (V.int .u8 (Int.ofNat 128))) (.t 38)<|
.b 40 .or .none (.t 33) (.t 39)<|
.s 41 1 26 31<|
.w 1 41 40<|
.nil) [0, 1, 3, 7, 0, 16, 48, 112, 240, 511, 1023, 0, 2048, 6144, 14336, 30720, 63488, 131071, 262143, 524287])
 .skip))
 (.keep [(0, .any)] [] [] cc2))
def T289_1 (E : List (Nat × Blk)) (D : Den) (W : DrawFn) (K2 : V → H → Ans) (a : V) (b : Int) (σ : H) : Ans :=
 condK (not (eqF b (Int.ofNat 0))) (
 rtPtr a fun b1 o2 =>
 ldK E σ b1 o2 fun u3 =>
 rtPtr a fun b4 o5 =>
 ldK E σ b4 (Nat.add o5 1) fun u6 =>
 rtInt .i64 u6 fun x7 =>
 iaddrSK 1 u3 (quoF .i64 x7 (Int.ofNat 8)) fun b8 o9 =>
 ldK E σ b8 o9 fun u10 =>
 rtInt .u8 u10 fun x11 =>
 rtPtr a fun b12 o13 =>
 ldK E σ b12 (Nat.add o13 1) fun u14 =>
 rtInt .i64 u14 fun x15 =>
 nnK (Int.tmod x15 (Int.ofNat 8)) fun n16 =>
 iaddrSK 1 u3 (quoF .i64 x7 (Int.ofNat 8)) fun b17 o18 =>
 stK 1 b17 o18 (V.int .u8 (orF .u8 x11 (shrF .u8 (Int.ofNat 128) n16))) σ fun s19 =>
 K2 a s19) (
 K2 a σ)
def C289_2 : XC := (.ops (.m 42 0<|
.n 43 42<|
.f 44 1 43<|
.l 45 .i 44<|
.b 46 .add .none (.t 45) (.i 1)<|
.n 47 42<|
.f 48 1 47<|
.w 1 48 46<|
.nil))
def T289_2 (E : List (Nat × Blk)) (D : Den) (W : DrawFn) (a : V) (σ : H) : Ans :=
 rtPtr a fun b1 o2 =>
 ldK E σ b1 (Nat.add o2 1) fun u3 =>
 rtInt .i64 u3 fun x4 =>
 rtPtr a fun b5 o6 =>
 stK 1 b5 (Nat.add o6 1) (V.int .i64 (addF .i64 x4 (Int.ofNat 1))) σ fun s7 =>
 some ((V.tup []), s7)
def S289_0 (a : V) (b : Int) (σ : H) : St := ⟨[(0, a), (1, (V.int .i64 b))], [], [], σ⟩
def S289_1 (a : V) (b : Int) (σ : H) : St := ⟨[(0, a), (1, (V.int .i64 b))], [], [], σ⟩
def S289_2 (a : V) (σ : H) : St := ⟨[(0, a)], [], [], σ⟩
theorem P289_0 (cc1 : XC) (a : V) (b : Int) (σ : H) :
 denC E D W N (C289_0 cc1) (S289_0 a b σ) (Fin289 E) nX (Fin289 E) =
 T289_0 E D W (fun a b σ => denC E D W N cc1 (S289_1 a b σ) (Fin289 E) nX (Fin289 E)) a b σ := by kernel_rfl
theorem P289_1 (cc2 : XC) (a : V) (b : Int) (σ : H) :
 denC E D W N (C289_1 cc2) (S289_1 a b σ) (Fin289 E) nX (Fin289 E) =
 T289_1 E D W (fun a σ => denC E D W N cc2 (S289_2 a σ) (Fin289 E) nX (Fin289 E)) a b σ := by kernel_rfl
theorem P289_2 (a : V) (σ : H) :
 denC E D W N (C289_2 ) (S289_2 a σ) (Fin289 E) nX (Fin289 E) =
 T289_2 E D W  a σ := by kernel_rfl
def J289_2 (E : List (Nat × Blk)) (D : Den) (W : DrawFn) (N : Nat) := T289_2 E D W
theorem JE289_2 (a : V) (σ : H) :
 denC E D W N C289_2 (S289_2 a σ) (Fin289 E) nX (Fin289 E) = J289_2 E D W N a σ := by
 refine (P289_2 E D W N   a σ).trans ?_
 kernel_rfl
def J289_1 := T289_1 E D W (J289_2 E D W N )
theorem JE289_1 (a : V) (b : Int) (σ : H) :
 denC E D W N (C289_1 C289_2) (S289_1 a b σ) (Fin289 E) nX (Fin289 E) = J289_1 E D W N a b σ := by
 refine (P289_1 E D W N C289_2  a b σ).trans ?_
 simp only [JE289_2]
 kernel_rfl
def J289_0 := T289_0 E D W (J289_1 E D W N )
theorem JE289_0 (a : V) (b : Int) (σ : H) :
 denC E D W N (C289_0 (C289_1 C289_2)) (S289_0 a b σ) (Fin289 E) nX (Fin289 E) = J289_0 E D W N a b σ := by
 refine (P289_0 E D W N (C289_1 C289_2)  a b σ).trans ?_
 simp only [JE289_1]
 kernel_rfl
def F289 (args : List V) (σ : H) : Ans :=
 rtCons args fun x1 l2 =>
 xcI .i64 l2 fun x5 l4 =>
 rtNil l4 (
 J289_0 E D W N x1 x5 σ)
def A289 : XFn := ⟨49, [.any, .i], [], (C289_0 (C289_1 C289_2))⟩
theorem FE289 (args : List V) (σ : H) : runX E D W N A289 args σ = F289 E D W N args σ := by
 unfold F289
 simp only [← JE289_0]
 kernel_rfl
def C290_0 (cc1 : XC) : XC := (.z (.q 2 0<|
.nil)
 (.seq (.z (.m 3 0<|
.b 4 .geq .none (.t 3) (.con (V.int .u64 (Int.ofNat 4294967296)))<|
.nil)
 (.cond (.tmp 4) (.z (.m 5 0<|
.b 6 .shr .none (.t 5) (.con (V.int .u64 (Int.ofNat 32)))<|
.m 0 6<|
.nil)
 (.ops (.q 2 32<|
.nil)))
 .skip))
 (.keep [(0, (.int .u64)), (2, .i)] [] [] cc1)))
def C290_1 (cc2 : XC) : XC := (.seq (.z (.m 7 0<|
.b 8 .geq .none (.t 7) (.con (V.int .u64 (Int.ofNat 65536)))<|
.nil)
 (.cond (.tmp 8) (.z (.m 9 0<|
.b 10 .shr .none (.t 9) (.con (V.int .u64 (Int.ofNat 16)))<|
.m 0 10<|
.nil)
 (.ops (.m 11 2<|
.b 12 .add .none (.t 11) (.i 16)<|
.m 2 12<|
.nil)))
 .skip))
 (.keep [(0, (.int .u64)), (2, .i)] [] [] cc2))
def C290_2 (cc3 : XC) : XC := (.seq (.z (.m 13 0<|
.b 14 .geq .none (.t 13) (.con (V.int .u64 (Int.ofNat 256)))<|
.nil)
 (.cond (.tmp 14) (.z (.m 15 0<|
.b 16 .shr .none (.t 15) (.con (V.int .u64 (Int.ofNat 8)))<|
.m 0 16<|
.nil)
 (.ops (.m 17 2<|
.b 18 .add .none (.t 17) (.i 8)<|
.m 2 18<|
.nil)))
 .skip))
 (.keep [(0, (.int .u64)), (2, .i)] [] [] cc3))
def C290_3 : XC := (.z (.m 19 2<|
.m 20 0<|
.P 21 (.conv (.toInt .u8) (.t 20))<|
.P 22 (.idxStr (.con (V.str ⟨256, 1013866857139168856493015739252390649739422828853819106890363778118420553376247557433637691341895324351018602695588957474325319502760499485336098898398377509666851054660423406800006203933793007272033180812049178612605246075062580585469430410618860250057463399279570354286669047577758927328864388992123306212451509403152394148136105363817402562688186708175358218852349079190158732807302672745370040257219644697201681238697346923541678507645485296520536209706771857694240900605172937619415410180424934769249448772944216470541052485265558808433676546390051204254346932932316488017972311616136051587427851453983453479168⟩)) (.t 21))<|
.P 23 (.conv (.toInt .i64) (.t 22))<|
.b 24 .add .none (.t 19) (.t 23)<|
.m 2 24<|
.nil)
 .ret)
def A290 : XFn := ⟨25, [(.int .u64)], [(.tmp 2)], (C290_0 (C290_1 (C290_2 C290_3)))⟩
def C294_0 (cc1 : XC) (cc2 : XC) : XC := (.z (.P 1 (.box 145 (.t 0))<|
.q 2 0<|
.nil)
 (.z (.O 5 y1 (.load (some 13) (.t 1))<|
.k 6 .one 302 [(.t 5)]<|
.m 3 6<|
.nil)
 (.z (.f 7 10 1<|
.l 8 .i 7<|
.m 4 8<|
.nil)
 (.seq (.block 0 (.loop [(3, .any), (4, .i)] [] [] cc2))
 (.keep [(4, .i)] [] [] cc1)))))
def C294_1 : XC := (.z (.m 20 4<|
.m 2 20<|
.nil)
 .ret)
def C294_2 : XC := (.seq (.z (.m 9 4<|
.b 10 .gtr .none (.t 9) (.i 0)<|
.m 11 10<|
.gA 11 true (.p 12 [3, 11] (.mov (.t 3))<|
.p 13 [4, 11] (.mov (.t 4))<|
.p 14 [13, 11] (.bin .sub .none (.t 13) (.i 1))<|
.p 15 [12, 14, 11] (.iaddrS 1 (.t 12) (.t 14))<|
.op (some 16) .bool [15, 11] (.load none (.t 15))<|
.nil) 17 11 16<|
.nil)
 (.cond (.tmp 17) .skip
 y23))
 (.block 1 (.ops (.m 18 4<|
.b 19 .sub .none (.t 18) (.i 1)<|
.m 4 19<|
.nil))))
def A294 : XFn := ⟨21, [y1], [(.tmp 2)], (C294_0 C294_1 C294_2)⟩
def C295_0 (cc1 : XC) (cc2 : XC) : XC := (.z (.P 3 (.box 253 (.t 1))<|
.c 4 y3<|
.nil)
 (.seq (.z (.q 5 0<|
.nil)
 (.block 0 (.loop [(0, .any), (3, .ptr), (5, .i)] [] [] cc2)))
 (.keep [] [] [] cc1)))
def C295_1 : XC := (.z (.c 4 y3<|
.nil)
 .ret)
def C295_2 : XC := (.seq (.z (.m 6 5<|
.m 7 0<|
.u 8 7<|
.b 9 .lss .none (.t 6) (.t 8)<|
.nil)
 y15)
 (.seq (.block 1 (.seq (.draw (.m 12 0<|
.m 13 5<|
.s 14 2 12 13<|
.O 15 y14 (.load (some 2) (.t 14))<|
.O 16 y14 (.load (some 2) (.t 3))<|
.b 17 .eql (.flat [(0, .int), (1, .int)]) (.t 15) (.t 16)<|
.nil) [0, 0, 3, 7, 0, 31])
 y28))
 y27))
def A295 : XFn := ⟨18, [.any, y14], [(.tmp 4)], (C295_0 C295_1 C295_2)⟩
def G301_0 : List AOper := [⟨(some 33), .mov (.tmp 7), none⟩, ⟨(some 34), .mov (.tmp 0), none⟩, ⟨(some 35), .nilck (.tmp 34), none⟩, ⟨(some 36), .faddr 5 (.tmp 35), none⟩, ⟨(some 37), .load none (.tmp 36), none⟩, ⟨(some 38), .mov (.tmp 1), none⟩, ⟨(some 39), .mov (.tmp 8), none⟩, ⟨(some 40), .iaddrS 11 (.tmp 38) (.tmp 39), none⟩, ⟨(some 41), .faddr 1 (.tmp 40), none⟩, ⟨(some 42), .load none (.tmp 41), none⟩, ⟨(some 43), .call 310 [(.tmp 37), (.tmp 42)], none⟩, ⟨(some 44), .buildSlice 139 1 [V.nils] [(0, 1, (.tmp 43))], none⟩, ⟨(some 45), .append 139 1 24 (.tmp 33) (.tmp 44), none⟩, ⟨(some 7), .mov (.tmp 45), none⟩]
def H301_0 : List DP := [⟨0, [7]⟩, ⟨0, [0]⟩, ⟨2, [34]⟩, ⟨6, [35]⟩, ⟨14, [36]⟩, ⟨0, [1]⟩, ⟨0, [8]⟩, ⟨96, [38, 39]⟩, ⟨224, [40]⟩, ⟨480, [41]⟩, ⟨1022, [37, 42]⟩, ⟨2046, [43]⟩, ⟨4095, [33, 44]⟩, ⟨8191, [45]⟩]
def C301_0 (cc1 : XC) (cc2 : XC) : XC := (.z (.c 6 y3<|
.nil)
 (.z (.c 7 V.nils<|
.nil)
 (.seq (.z (.q 8 0<|
.nil)
 (.block 0 (.loop q289a [] [] cc2)))
 (.keep [(7, .any)] [] [] cc1))))
def C301_1 : XC := (.z (.m 46 7<|
.k 47 .bool 313 [(.t 46)]<|
.m 6 47<|
.nil)
 .ret)
def C301_2 : XC := (.seq (.z (.m 9 8<|
.m 10 1<|
.u 11 10<|
.b 12 .lss .none (.t 9) (.t 11)<|
.nil)
 (.cond (.tmp 12) .skip
 y23))
 (.seq (.block 1 (.seq (.seq (.draw (.m 15 0<|
.n 16 15<|
.f 17 5 16<|
.l 18 .any 17<|
.m 19 1<|
.m 20 8<|
.s 21 11 19 20<|
.f 22 1 21<|
.l 23 .i 22<|
.k 24 .bool 312 [(.t 18), (.t 23)]<|
.m 25 24<|
.gA 25 true (.p 26 [2, 25] (.mov (.t 2))<|
.p 27 [26, 25] (.mov (.t 26))<|
.grp 27 false (.p 28 [1, 27] y17<|
.p 29 [28, 27] (.len false (.t 28))<|
.p 30 [29, 27] (.bin .gtr .none (.t 29) (.i 1))<|
.nil) 31 [27, 30, 25] (.t 27) y12 (.t 30)<|
.nil) 32 25 31<|
.nil) [0, 1, 3, 7, 0, 0, 48, 112, 240, 511, 1023, 2047, 4095, 8191, 16383, 32767, 65535, 131071])
 (.cond (.tmp 32) (.z (.c 6 y3<|
.nil)
 .ret)
 .skip))
 (.keep q289a [] [] (.gdraw G301_0 H301_0 q289a))))
 (.ops (.m 13 8<|
.b 14 .add .none (.t 13) (.i 1)<|
.m 8 14<|
.nil))))
def A301 : XFn := ⟨48, [.ptr, .any, .bool], [(.tmp 6)], (C301_0 C301_1 C301_2)⟩
def C302_0 (cc1 : XC) (cc2 : XC) : XC := (.z (.P 1 (.box 145 (.t 0))<|
.c 2 V.nils<|
.nil)
 (.z (.c 3 V.nils<|
.nil)
 (.seq (.z (.q 4 0<|
.nil)
 (.block 0 (.loop [(1, .ptr), (3, .any), (4, .i)] [] [] cc2)))
 (.keep [(3, .any)] [] [] cc1))))
def C302_1 : XC := (.z (.m 35 3<|
.m 2 35<|
.nil)
 .ret)
def C302_2 : XC := (.seq (.z (.m 5 4<|
.f 6 9 1<|
.l 7 .any 6<|
.u 8 7<|
.b 9 .lss .none (.t 5) (.t 8)<|
.nil)
 y15)
 (.seq (.block 1 (.ops (.m 12 3<|
.f 13 9 1<|
.l 14 .any 13<|
.m 15 4<|
.s 16 11 14 15<|
.f 17 2 16<|
.l 18 .bool 17<|
.m 19 18<|
.gO 19 false (.p 20 [1, 19] (.faddr 9 (.t 1))<|
.p 21 [20, 19] (.load none (.t 20))<|
.p 22 [4, 19] (.mov (.t 4))<|
.p 23 [21, 22, 19] (.iaddrS 11 (.t 21) (.t 22))<|
.p 24 [23, 19] (.faddr 3 (.t 23))<|
.op (some 25) .bool [24, 19] (.load none (.t 24))<|
.nil) 26 19 25<|
.m 27 26<|
.gO 27 false (.p 28 [4, 27] (.mov (.t 4))<|
.p 29 [1, 27] (.faddr 10 (.t 1))<|
.op (some 30) .i [29, 27] (.load none (.t 29))<|
.p 31 [28, 30, 27] (.bin .geq .none (.t 28) (.t 30))<|
.nil) 32 27 31<|
.p 33 [32] (.buildSlice 4 1 [y3] [(0, 1, (.t 32))])<|
.O 34 .one (.append 4 1 1 (.t 12) (.t 33))<|
.m 3 34<|
.nil)))
 y21))
def A302 : XFn := ⟨36, [y1], [(.tmp 2)], (C302_0 C302_1 C302_2)⟩
def C310_0 (cc1 : XC) (cc2 : XC) : XC := (.z (.c 4 V.nils<|
.nil)
 (.seq (.z (.m 7 0<|
.m 8 1<|
.s 9 13 7 8<|
.f 10 1 9<|
.l 11 .any 10<|
.u 12 11<|
.b 13 .gtr .none (.t 12) (.i 0)<|
.nil)
 (.cond (.tmp 13) (.z (.m 14 0<|
.m 15 1<|
.s 16 13 14 15<|
.f 17 1 16<|
.l 18 .any 17<|
.p 19 [18] (.sliceSl 2 (.t 18) none (some (.i 1)) none)<|
.m 4 19<|
.nil)
 .ret)
 .skip))
 (.z (.c 5 V.nils<|
.nil)
 (.seq (.z (.q 6 0<|
.nil)
 (.block 0 (.loop [(0, .any), (1, .i), (5, .any), (6, .i)] [] [] cc2)))
 (.keep [(5, .any)] [] [] cc1)))))
def C310_1 : XC := (.z (.m 43 5<|
.m 4 43<|
.nil)
 .ret)
def C310_2 : XC := (.seq (.z (.m 20 6<|
.m 21 0<|
.m 22 1<|
.s 23 13 21 22<|
.f 24 9 23<|
.l 25 .any 24<|
.u 26 25<|
.b 27 .lss .none (.t 20) (.t 26)<|
.nil)
 (.cond (.tmp 27) .skip
 y23))
 (.seq (.block 1 (.ops (.m 30 5<|
.m 31 0<|
.m 32 0<|
.m 33 1<|
.s 34 13 32 33<|
.f 35 9 34<|
.l 36 .any 35<|
.m 37 6<|
.s 38 11 36 37<|
.f 39 1 38<|
.l 40 .i 39<|
.k 41 .one 310 [(.t 31), (.t 40)]<|
.O 42 .one (.append 253 2 16 (.t 30) (.t 41))<|
.m 5 42<|
.nil)))
 (.ops (.m 28 6<|
.b 29 .add .none (.t 28) (.i 1)<|
.m 6 29<|
.nil))))
def A310 : XFn := ⟨44, [.any, .i], [(.tmp 4)], (C310_0 C310_1 C310_2)⟩
def C312_0 (cc1 : XC) (cc2 : XC) : XC := (.z (.c 4 y3<|
.nil)
 (.seq (.z (.m 7 0<|
.m 8 1<|
.s 9 13 7 8<|
.f 10 0 9<|
.l 11 .i 10<|
.b 12 .neq .none (.t 11) (.i 9)<|
.m 13 12<|
.gO 13 false (.p 14 [0, 13] y16<|
.p 15 [1, 13] y17<|
.p 16 [14, 15, 13] (.iaddrS 13 (.t 14) (.t 15))<|
.p 17 [16, 13] (.faddr 1 (.t 16))<|
.p 18 [17, 13] (.load none (.t 17))<|
.p 19 [18, 13] (.len false (.t 18))<|
.p 20 [19, 13] (.bin .gtr .none (.t 19) (.i 0))<|
.nil) 21 13 20<|
.nil)
 (.cond (.tmp 21) (.z (.c 4 y3<|
.nil)
 .ret)
 .skip))
 (.z (.m 22 0<|
.m 23 1<|
.s 24 13 22 23<|
.f 25 11 24<|
.l 26 .bool 25<|
.m 5 26<|
.nil)
 (.seq (.z (.q 6 0<|
.nil)
 (.block 0 (.loop [(0, .any), (1, .i), (5, .bool), (6, .i)] [] [] cc2)))
 (.keep [(5, .bool)] [] [] cc1)))))
def C312_1 : XC := (.z (.m 51 5<|
.m 4 51<|
.nil)
 .ret)
def C312_2 : XC := (.seq (.z (.m 27 6<|
.m 28 0<|
.m 29 1<|
.s 30 13 28 29<|
.f 31 9 30<|
.l 32 .any 31<|
.u 33 32<|
.b 34 .lss .none (.t 27) (.t 33)<|
.nil)
 (.cond (.tmp 34) .skip
 y23))
 (.seq (.block 1 (.ops (.m 37 5<|
.m 38 37<|
.gO 38 false (.p 39 [0, 38] y16<|
.p 40 [0, 38] y16<|
.p 41 [1, 38] y17<|
.p 42 [40, 41, 38] (.iaddrS 13 (.t 40) (.t 41))<|
.p 43 [42, 38] (.faddr 9 (.t 42))<|
.p 44 [43, 38] (.load none (.t 43))<|
.p 45 [6, 38] (.mov (.t 6))<|
.p 46 [44, 45, 38] (.iaddrS 11 (.t 44) (.t 45))<|
.p 47 [46, 38] (.faddr 1 (.t 46))<|
.op (some 48) .i [47, 38] (.load none (.t 47))<|
.op (some 49) .bool [39, 48, 38] (.call 312 [(.t 39), (.t 48)])<|
.nil) 50 38 49<|
.m 5 50<|
.nil)))
 (.ops (.m 35 6<|
.b 36 .add .none (.t 35) (.i 1)<|
.m 6 36<|
.nil))))
def A312 : XFn := ⟨52, [.any, .i], [(.tmp 4)], (C312_0 C312_1 C312_2)⟩
def C313_0 (cc1 : XC) (cc2 : XC) : XC := (.z (.c 2 y3<|
.nil)
 (.z (.c 3 V.nils<|
.nil)
 (.seq (.z (.q 4 0<|
.nil)
 (.block 0 (.loop [(0, .any), (3, .any), (4, .i)] [] [] cc2)))
 (.keep [] [] [] cc1))))
def C313_1 : XC := (.z (.c 2 y37<|
.nil)
 .ret)
def C313_2 (cc3 : XC) (cc4 : XC) : XC := (.seq (.z (.m 6 4<|
.m 7 0<|
.u 8 7<|
.b 9 .lss .none (.t 6) (.t 8)<|
.nil)
 y15)
 (.seq (.block 1 (.z (.q 5 0<|
.nil)
 (.block 2 (.loop [(0, .any), (3, .any), (4, .i), (5, .i)] [] [] cc4))))
 (.keep [(0, .any), (3, .any), (4, .i)] [] [] cc3)))
def C313_3 : XC := y21
def C313_4 : XC := (.seq (.z (.m 12 5<|
.m 13 0<|
.m 14 4<|
.s 15 1 13 14<|
.l 16 .any 15<|
.u 17 16<|
.b 18 .lss .none (.t 12) (.t 17)<|
.nil)
 (.cond (.tmp 18) .skip
 (.exit 2)))
 (.seq (.block 3 (.seq (.z (.m 21 3<|
.m 22 0<|
.m 23 4<|
.s 24 1 22 23<|
.l 25 .any 24<|
.m 26 5<|
.s 27 2 25 26<|
.O 28 y14 (.load (some 2) (.t 27))<|
.k 29 .bool 295 [(.t 21), (.t 28)]<|
.nil)
 (.cond (.tmp 29) (.z (.c 2 y3<|
.nil)
 .ret)
 .skip))
 (.ops (.m 30 3<|
.m 31 0<|
.m 32 4<|
.s 33 1 31 32<|
.l 34 .any 33<|
.m 35 5<|
.s 36 2 34 35<|
.O 37 y14 (.load (some 2) (.t 36))<|
.p 38 [37] (.buildSlice 253 1 [y0, y0] [(0, 2, (.t 37))])<|
.O 39 .one (.append 253 2 16 (.t 30) (.t 38))<|
.m 3 39<|
.nil))))
 (.ops (.m 19 5<|
.b 20 .add .none (.t 19) (.i 1)<|
.m 5 20<|
.nil))))
def A313 : XFn := ⟨40, [.any], [(.tmp 2)], (C313_0 C313_1 (C313_2 C313_3 C313_4))⟩
end
end Go.Proofs.YtgjjnbddbbhloaaGreatDoor
