/- What the last text leans on, part 4 of 6: merged out of smaller texts. No condition. -/
import Derived.KernelRfl
import Derived.Test.YtdfgcokapncaiaaGreatDoorQ2
set_option linter.all false
set_option maxRecDepth 100000
set_option maxHeartbeats 0
namespace Go.Proofs.YtdfgcokapncaiaaGreatDoor
open Go Go.Og
noncomputable section
variable (E : List (Nat × Blk)) (D : Den) (W : DrawFn) (N : Nat)
/-! ### F3: ogham_oghamlaw23.StoreTexts -/
def Fin3 (E : List (Nat × Blk)) : St → Ans := fun s => resK E s [(.tmp 4)] fun l => some (oneV l, s.σ)
def C3_0 (cc1 : XC) (cc2 : XC) : XC := (.seq (.ops (.p 4 [] (.mov (.con (V.bool false))) <|
 .nil))
 (.seq (.seq (.ops (.m 23 1 <|
 .p 24 [23] (.len false (.t 23)) <|
 .p 25 [24] (.bin .gtr .none (.t 24) (.i 12)) <|
 .nil))
 (.cond (.tmp 25) (.seq (.ops (.op (some 26) .bool [] (.call 4 []) <|
 .m 4 26 <|
 .nil))
 .ret)
 .skip))
 (.seq (.ops (.p 5 [] (.mov (.con (V.str ⟨1, 32⟩))) <|
 .nil))
 (.seq (.seq (.ops (.p 6 [] (.mov (.i 0)) <|
 .nil))
 (.block 0 (.loop [(0, .bool), (1, .any), (5, .str), (6, .i)] [] [] cc2)))
 (.keep [(0, .bool), (5, .str)] [] [] cc1)))))
def T3_0 (E : List (Nat × Blk)) (D : Den) (W : DrawFn) (K2 : Bool → V → BS → Int → H → Ans) (v0 : Bool) (v1 : V) (σ : H) : Ans :=
 slenK v1 fun n1 =>
 condK (ltF (Int.ofNat 12) (Int.ofNat n1)) (
 callK (D 4 [] σ) fun u2 s3 =>
 rtBool u2 fun x4 =>
 some ((V.bool x4), s3)) (
 K2 v0 v1 (BS.mk 1 32) (Int.ofNat 0) σ)
def C3_1 (cc3 : XC) : XC := (.seq (.ops (.p 7 [] (.mov (.con (V.str ⟨0, 0⟩))) <|
 .nil))
 (.seq (.seq (.ops (.m 43 0 <|
 .nil))
 (.cond (.tmp 43) (.ops (.p 7 [] (.mov (.con (V.str ⟨14, 655635097218688137868315485820997⟩))) <|
 .nil))
 .skip))
 (.keep [(5, .str), (7, .str)] [] [] cc3)))
def T3_1 (E : List (Nat × Blk)) (D : Den) (W : DrawFn) (K3 : BS → BS → H → Ans) (v0 : Bool) (v5 : BS) (σ : H) : Ans :=
 condK v0 (
 K3 v5 (BS.mk 14 655635097218688137868315485820997) σ) (
 K3 v5 (BS.mk 0 0) σ)
def C3_2 : XC := (.seq (.seq (.ops (.m 27 6 <|
 .m 28 1 <|
 .p 29 [28] (.len false (.t 28)) <|
 .p 30 [27, 29] (.bin .lss .none (.t 27) (.t 29)) <|
 .nil))
 (.cond (.tmp 30) .skip
 (.exit 0)))
 (.seq (.block 1 (.ops (.m 33 5 <|
 .p 34 [] (.buildSlice 9 5 [(V.str ⟨0, 0⟩), (V.str ⟨0, 0⟩), (V.str ⟨0, 0⟩), (V.str ⟨0, 0⟩), (V.str ⟨0, 0⟩)] [(0, 1, (.con (V.str ⟨1, 32⟩))), (1, 1, (.con (V.str ⟨1, 10⟩))), (2, 1, (.con (V.str ⟨1, 9⟩))), (3, 1, (.con (V.str ⟨7, 12715991429557549⟩))), (4, 1, (.con (V.str ⟨4, 175713581⟩)))]) <|
 .m 35 1 <|
 .m 36 6 <|
 .p 37 [35, 36] (.iaddrS 1 (.t 35) (.t 36)) <|
 .op (some 38) (.int .u8) [37] (.load none (.t 37)) <|
 .p 39 [38] (.bin .rem .none (.t 38) (.con (V.int .u8 (Int.ofNat 5)))) <|
 .p 40 [34, 39] (.iaddrS 1 (.t 34) (.t 39)) <|
 .op (some 41) .str [40] (.load none (.t 40)) <|
 .p 42 [33, 41] (.bin .add .none (.t 33) (.t 41)) <|
 .m 5 42 <|
 .nil)))
 (.ops (.m 31 6 <|
 .p 32 [31] (.bin .add .none (.t 31) (.i 1)) <|
 .m 6 32 <|
 .nil))))
def T3_2 (E : List (Nat × Blk)) (D : Den) (W : DrawFn) (K1 : Bool → BS → H → Ans) (R2 : Bool → V → BS → Int → H → Ans) (v0 : Bool) (v1 : V) (v5 : BS) (v6 : Int) (σ : H) : Ans :=
 slenK v1 fun n1 =>
 condK (ltF v6 (Int.ofNat n1)) (
 let s2 := newB σ (.cells [(V.str (BS.mk 1 32)), (V.str (BS.mk 1 10)), (V.str (BS.mk 1 9)), (V.str (BS.mk 7 12715991429557549)), (V.str (BS.mk 4 175713581))]);
 iaddrSK 1 v1 v6 fun b3 o4 =>
 ldK E s2 b3 o4 fun u5 =>
 rtInt .u8 u5 fun x6 =>
 iaddrSK 1 (V.sl (H.next σ) 0 5 (.ex 5)) (Int.tmod x6 (Int.ofNat 5)) fun b7 o8 =>
 ldK E s2 b7 o8 fun u9 =>
 rtStr u9 fun x10 =>
 catK v5 x10 fun t11 =>
 R2 v0 v1 t11 (addF .i64 v6 (Int.ofNat 1)) s2) (
 K1 v0 v5 σ)
def C3_3 (cc4 : XC) : XC := (.seq (.ops (.op (some 44) .one [] (.call 5 []) <|
 .op (some 45) .one [] (.call 5 []) <|
 .m 8 44 <|
 .m 9 45 <|
 .nil))
 (.seq (.seq (.ops (.op (some 46) .bool [] (.call 4 []) <|
 .p 47 [46] (.un .not (.t 46)) <|
 .m 48 47 <|
 .grp 48 false (.p 49 [8, 48] (.mov (.t 8)) <|
 .p 50 [49, 48] (.bin .eql .ptr (.t 49) (.con V.nilp)) <|
 .nil) 51 [48, 50] (.t 48) (.con (V.bool true)) (.t 50) <|
 .m 52 51 <|
 .grp 52 false (.p 53 [9, 52] (.mov (.t 9)) <|
 .p 54 [53, 52] (.bin .eql .ptr (.t 53) (.con V.nilp)) <|
 .nil) 55 [52, 54] (.t 52) (.con (V.bool true)) (.t 54) <|
 .nil))
 (.cond (.tmp 55) (.seq (.ops (.p 4 [] (.mov (.con (V.bool false))) <|
 .nil))
 .ret)
 .skip))
 (.seq (.ops (.m 57 8 <|
 .op (some 58) (.tup [.i, .i, .i]) [57] (.call 6 [(.t 57), (.con (V.str ⟨62, 54587738091573229668102065803883576158056086505522375198882813406261465456683832757570236346346394289095007491148526506889332126255556727757022175309⟩))]) <|
 .m 56 58 <|
 .p 59 [56] (.extract 0 (.t 56)) <|
 .p 60 [56] (.extract 1 (.t 56)) <|
 .p 61 [56] (.extract 2 (.t 56)) <|
 .m 10 59 <|
 .m 11 60 <|
 .m 12 61 <|
 .nil))
 (.seq (.ops (.m 63 8 <|
 .m 64 5 <|
 .p 65 [64] (.bin .add .none (.con (V.str ⟨1, 77⟩)) (.t 64)) <|
 .p 66 [65] (.bin .add .none (.t 65) (.con (V.str ⟨12, 10004230964473430939472905540⟩))) <|
 .m 67 7 <|
 .p 68 [66, 67] (.bin .add .none (.t 66) (.t 67)) <|
 .p 69 [68] (.bin .add .none (.t 68) (.con (V.str ⟨3, 4012602⟩))) <|
 .m 70 5 <|
 .p 71 [69, 70] (.bin .add .none (.t 69) (.t 70)) <|
 .p 72 [71] (.bin .add .none (.t 71) (.con (V.str ⟨7, 18331394095138114⟩))) <|
 .m 73 5 <|
 .p 74 [72, 73] (.bin .add .none (.t 72) (.t 73)) <|
 .p 75 [74] (.bin .add .none (.t 74) (.con (V.str ⟨11, 99459075210250793865001530⟩))) <|
 .m 76 5 <|
 .p 77 [75, 76] (.bin .add .none (.t 75) (.t 76)) <|
 .p 78 [77] (.bin .add .none (.t 77) (.con (V.str ⟨7, 19226357215606056⟩))) <|
 .m 79 5 <|
 .p 80 [78, 79] (.bin .add .none (.t 78) (.t 79)) <|
 .op (some 81) (.tup [.i, .i, .i]) [63, 80] (.call 6 [(.t 63), (.t 80)]) <|
 .m 62 81 <|
 .p 82 [62] (.extract 0 (.t 62)) <|
 .p 83 [62] (.extract 1 (.t 62)) <|
 .p 84 [62] (.extract 2 (.t 62)) <|
 .m 13 82 <|
 .m 14 83 <|
 .m 15 84 <|
 .nil))
 (.seq (.ops (.m 86 8 <|
 .op (some 87) (.tup [.str, .i]) [86] (.call 7 [(.t 86), (.con (V.str ⟨1, 77⟩)), (.i 1)]) <|
 .m 85 87 <|
 .p 88 [85] (.extract 0 (.t 85)) <|
 .p 89 [85] (.extract 1 (.t 85)) <|
 .m 16 88 <|
 .m 17 89 <|
 .nil))
 (.seq (.ops (.m 91 9 <|
 .m 92 16 <|
 .op (some 93) (.tup [.i, .i, .i]) [91, 92] (.call 6 [(.t 91), (.t 92)]) <|
 .m 90 93 <|
 .p 94 [90] (.extract 0 (.t 90)) <|
 .p 95 [90] (.extract 1 (.t 90)) <|
 .p 96 [90] (.extract 2 (.t 90)) <|
 .m 18 94 <|
 .m 19 95 <|
 .m 20 96 <|
 .nil))
 (.seq (.ops (.m 98 9 <|
 .op (some 99) (.tup [.str, .i]) [98] (.call 7 [(.t 98), (.con (V.str ⟨1, 77⟩)), (.i 0)]) <|
 .m 97 99 <|
 .p 100 [97] (.extract 0 (.t 97)) <|
 .p 101 [97] (.extract 1 (.t 97)) <|
 .m 21 100 <|
 .m 22 101 <|
 .nil))
 (.keep [(10, .i), (12, .i), (15, .i), (16, .str), (17, .i), (18, .i), (20, .i), (21, .str), (22, .i)] [] [] cc4))))))))
def T3_3 (E : List (Nat × Blk)) (D : Den) (W : DrawFn) (K4 : Int → Int → Int → BS → Int → Int → Int → BS → Int → H → Ans) (v5 : BS) (v7 : BS) (σ : H) : Ans :=
 callK (D 5 [] σ) fun u1 s2 =>
 rtOne u1 (
 callK (D 5 [] s2) fun u3 s4 =>
 rtOne u3 (
 callK (D 4 [] s4) fun u5 s6 =>
 rtBool u5 fun x7 =>
 joinB (fun c8 s9 =>
 joinB (fun c11 s12 =>
 condK c11 (
 some ((V.bool false), s12)) (
 callK (D 6 [u1, (V.str (BS.mk 62 54587738091573229668102065803883576158056086505522375198882813406261465456683832757570236346346394289095007491148526506889332126255556727757022175309))] s12) fun u14 s15 =>
 rtTup u14 fun l16 =>
 rtCons l16 fun x17 l18 =>
 rtInt .i64 x17 fun x19 =>
 rtCons l18 fun x20 l21 =>
 rtInt .i64 x20 fun x22 =>
 rtCons l21 fun x23 l24 =>
 rtInt .i64 x23 fun x25 =>
 rtNil l24 (
 catK (BS.mk 1 77) v5 fun t26 =>
 catK t26 (BS.mk 12 10004230964473430939472905540) fun t27 =>
 catK t27 v7 fun t28 =>
 catK t28 (BS.mk 3 4012602) fun t29 =>
 catK t29 v5 fun t30 =>
 catK t30 (BS.mk 7 18331394095138114) fun t31 =>
 catK t31 v5 fun t32 =>
 catK t32 (BS.mk 11 99459075210250793865001530) fun t33 =>
 catK t33 v5 fun t34 =>
 catK t34 (BS.mk 7 19226357215606056) fun t35 =>
 catK t35 v5 fun t36 =>
 callK (D 6 [u1, (V.str t36)] s15) fun u37 s38 =>
 rtTup u37 fun l39 =>
 rtCons l39 fun x40 l41 =>
 rtInt .i64 x40 fun x42 =>
 rtCons l41 fun x43 l44 =>
 rtInt .i64 x43 fun x45 =>
 rtCons l44 fun x46 l47 =>
 rtInt .i64 x46 fun x48 =>
 rtNil l47 (
 callK (D 7 [u1, (V.str (BS.mk 1 77)), (V.int .i64 (Int.ofNat 1))] s38) fun u49 s50 =>
 rtTup u49 fun l51 =>
 rtCons l51 fun x52 l53 =>
 rtStr x52 fun x54 =>
 rtCons l53 fun x55 l56 =>
 rtInt .i64 x55 fun x57 =>
 rtNil l56 (
 callK (D 6 [u3, (V.str x54)] s50) fun u58 s59 =>
 rtTup u58 fun l60 =>
 rtCons l60 fun x61 l62 =>
 rtInt .i64 x61 fun x63 =>
 rtCons l62 fun x64 l65 =>
 rtInt .i64 x64 fun x66 =>
 rtCons l65 fun x67 l68 =>
 rtInt .i64 x67 fun x69 =>
 rtNil l68 (
 callK (D 7 [u3, (V.str (BS.mk 1 77)), (V.int .i64 (Int.ofNat 0))] s59) fun u70 s71 =>
 rtTup u70 fun l72 =>
 rtCons l72 fun x73 l74 =>
 rtStr x73 fun x75 =>
 rtCons l74 fun x76 l77 =>
 rtInt .i64 x76 fun x78 =>
 rtNil l77 (
 K4 x19 x25 x48 x54 x57 x63 x69 x75 x78 s71))))))) fun k13 =>
 condK c8 (
 k13 true s9) (
 eqK .ptr u3 V.nilp fun c79 =>
 k13 c79 s9)) fun k10 =>
 condK (not x7) (
 k10 true s6) (
 eqK .ptr u1 V.nilp fun c80 =>
 k10 c80 s6)))
def C3_4 (cc5 : XC) (cc6 : XL) : XC := (.seq (.ops (.m 102 10 <|
 .p 103 [102] (.bin .eql .none (.t 102) (.i 1)) <|
 .m 104 103 <|
 .grp 104 true (.p 105 [12, 104] (.mov (.t 12)) <|
 .p 106 [105, 104] (.bin .eql .none (.t 105) (.i 0)) <|
 .nil) 107 [104, 106] (.t 104) (.t 106) (.con (V.bool false)) <|
 .m 108 107 <|
 .grp 108 true (.p 109 [15, 108] (.mov (.t 15)) <|
 .p 110 [109, 108] (.bin .eql .none (.t 109) (.i 8)) <|
 .nil) 111 [108, 110] (.t 108) (.t 110) (.con (V.bool false)) <|
 .m 112 111 <|
 .grp 112 true (.p 113 [17, 112] (.mov (.t 17)) <|
 .p 114 [113, 112] (.bin .eql .none (.t 113) (.i 0)) <|
 .nil) 115 [112, 114] (.t 112) (.t 114) (.con (V.bool false)) <|
 cc6))
 (.keep [(4, .bool)] [] [] cc5))
def T3_4 (E : List (Nat × Blk)) (D : Den) (W : DrawFn) (K6 : Bool → Bool → Bool → Bool → Bool → Bool → Bool → Int → Int → Int → Int → BS → Int → Int → Int → BS → Int → H → Ans) (v10 : Int) (v12 : Int) (v15 : Int) (v16 : BS) (v17 : Int) (v18 : Int) (v20 : Int) (v21 : BS) (v22 : Int) (σ : H) : Ans :=
 joinB (fun c1 s2 =>
 joinB (fun c4 s5 =>
 joinB (fun c7 s8 =>
 K6 c7 c4 c4 c1 c1 (eqF v10 (Int.ofNat 1)) (eqF v10 (Int.ofNat 1)) v10 v10 v12 v15 v16 v17 v18 v20 v21 v22 s8) fun k9 =>
 condK c4 (
 k9 (eqF v17 (Int.ofNat 0)) s5) (
 k9 false s5)) fun k6 =>
 condK c1 (
 k6 (eqF v15 (Int.ofNat 8)) s2) (
 k6 false s2)) fun k3 =>
 condK (eqF v10 (Int.ofNat 1)) (
 k3 (eqF v12 (Int.ofNat 0)) σ) (
 k3 false σ)
def C3_5 : XC := .ret
def T3_5 (E : List (Nat × Blk)) (D : Den) (W : DrawFn) (v4 : Bool) (σ : H) : Ans :=
 some ((V.bool v4), σ)
def C3_6 (cc7 : XL) : XL := .m 116 115 <|
 .grp 116 true (.p 117 [18, 116] (.mov (.t 18)) <|
 .p 118 [117, 116] (.bin .eql .none (.t 117) (.i 1)) <|
 .nil) 119 [116, 118] (.t 116) (.t 118) (.con (V.bool false)) <|
 .m 120 119 <|
 .grp 120 true (.p 121 [20, 120] (.mov (.t 20)) <|
 .p 122 [121, 120] (.bin .eql .none (.t 121) (.i 0)) <|
 .nil) 123 [120, 122] (.t 120) (.t 122) (.con (V.bool false)) <|
 .m 124 123 <|
 .grp 124 true (.p 125 [22, 124] (.mov (.t 22)) <|
 .p 126 [125, 124] (.bin .eql .none (.t 125) (.i 0)) <|
 .nil) 127 [124, 126] (.t 124) (.t 126) (.con (V.bool false)) <|
 cc7
def T3_6 (E : List (Nat × Blk)) (D : Den) (W : DrawFn) (K7 : Bool → Bool → Bool → Bool → Bool → Bool → Bool → Bool → Bool → Bool → Bool → Bool → Bool → Int → Int → Int → Int → BS → Int → Int → Int → BS → Int → H → Ans) (m0 : Bool) (m1 : Bool) (m2 : Bool) (m3 : Bool) (m4 : Bool) (m5 : Bool) (m6 : Bool) (m7 : Int) (m8 : Int) (m9 : Int) (m10 : Int) (m11 : BS) (m12 : Int) (m13 : Int) (m14 : Int) (m15 : BS) (m16 : Int) (σ : H) : Ans :=
 joinB (fun c1 s2 =>
 joinB (fun c4 s5 =>
 joinB (fun c7 s8 =>
 K7 c7 c4 c4 c1 c1 m0 m0 m1 m2 m3 m4 m5 m6 m7 m8 m9 m10 m11 m12 m13 m14 m15 m16 s8) fun k9 =>
 condK c4 (
 k9 (eqF m16 (Int.ofNat 0)) s5) (
 k9 false s5)) fun k6 =>
 condK c1 (
 k6 (eqF m14 (Int.ofNat 0)) s2) (
 k6 false s2)) fun k3 =>
 condK m0 (
 k3 (eqF m13 (Int.ofNat 1)) σ) (
 k3 false σ)
def C3_7 : XL := .m 128 127 <|
 .grp 128 true (.p 129 [16, 128] (.mov (.t 16)) <|
 .p 130 [21, 128] (.mov (.t 21)) <|
 .p 131 [129, 130, 128] (.bin .eql .none (.t 129) (.t 130)) <|
 .nil) 132 [128, 131] (.t 128) (.t 131) (.con (V.bool false)) <|
 .m 4 132 <|
 .nil
def T3_7 (E : List (Nat × Blk)) (D : Den) (W : DrawFn) (K5 : Bool → H → Ans) (m0 : Bool) (m1 : Bool) (m2 : Bool) (m3 : Bool) (m4 : Bool) (m5 : Bool) (m6 : Bool) (m7 : Bool) (m8 : Bool) (m9 : Bool) (m10 : Bool) (m11 : Bool) (m12 : Bool) (m13 : Int) (m14 : Int) (m15 : Int) (m16 : Int) (m17 : BS) (m18 : Int) (m19 : Int) (m20 : Int) (m21 : BS) (m22 : Int) (σ : H) : Ans :=
 joinB (fun c1 s2 =>
 K5 c1 s2) fun k3 =>
 condK m0 (
 k3 (BS.beq m17 m21) σ) (
 k3 false σ)
theorem P3_0 (cc1 : XC) (cc2 : XC) (v0 : Bool) (v1 : V) (σ : H) :
  denC E D W N (C3_0 cc1 cc2) ⟨[(0, (V.bool v0)), (1, v1)], [], [], σ⟩ (Fin3 E) (fun _ _ => none) (Fin3 E) =
  T3_0 E D W (fun v0 v1 v5 v6 σ => iterK (fun rec s' => denC E D W N cc2 s' (fun s'' => keepS [(0, .bool), (1, .any), (5, .str), (6, .i)] [] [] s'' rec) (blkK 0 (fun s' => denC E D W N (.keep [(0, .bool), (5, .str)] [] [] cc1) s' (Fin3 E) (fun _ _ => none) (Fin3 E)) (fun _ _ => none)) (Fin3 E)) N ⟨[(0, (V.bool v0)), (1, v1), (5, (V.str v5)), (6, (V.int .i64 v6))], [], [], σ⟩) v0 v1 σ := by kernel_rfl
theorem P3_1 (cc3 : XC) (v0 : Bool) (v5 : BS) (σ : H) :
  denC E D W N (C3_1 cc3) ⟨[(0, (V.bool v0)), (5, (V.str v5))], [], [], σ⟩ (Fin3 E) (fun _ _ => none) (Fin3 E) =
  T3_1 E D W (fun v5 v7 σ => denC E D W N cc3 ⟨[(5, (V.str v5)), (7, (V.str v7))], [], [], σ⟩ (Fin3 E) (fun _ _ => none) (Fin3 E)) v0 v5 σ := by kernel_rfl
theorem P3_2 (cc1 : XC) (li2 : St → Ans) (v0 : Bool) (v1 : V) (v5 : BS) (v6 : Int) (σ : H) :
  denC E D W N (C3_2 ) ⟨[(0, (V.bool v0)), (1, v1), (5, (V.str v5)), (6, (V.int .i64 v6))], [], [], σ⟩ (fun s'' => keepS [(0, .bool), (1, .any), (5, .str), (6, .i)] [] [] s'' li2) (blkK 0 (fun s' => denC E D W N (.keep [(0, .bool), (5, .str)] [] [] cc1) s' (Fin3 E) (fun _ _ => none) (Fin3 E)) (fun _ _ => none)) (Fin3 E) =
  T3_2 E D W (fun v0 v5 σ => denC E D W N cc1 ⟨[(0, (V.bool v0)), (5, (V.str v5))], [], [], σ⟩ (Fin3 E) (fun _ _ => none) (Fin3 E)) (fun v0 v1 v5 v6 σ => li2 ⟨[(0, (V.bool v0)), (1, v1), (5, (V.str v5)), (6, (V.int .i64 v6))], [], [], σ⟩) v0 v1 v5 v6 σ := by kernel_rfl
theorem P3_3 (cc4 : XC) (v5 : BS) (v7 : BS) (σ : H) :
  denC E D W N (C3_3 cc4) ⟨[(5, (V.str v5)), (7, (V.str v7))], [], [], σ⟩ (Fin3 E) (fun _ _ => none) (Fin3 E) =
  T3_3 E D W (fun v10 v12 v15 v16 v17 v18 v20 v21 v22 σ => denC E D W N cc4 ⟨[(10, (V.int .i64 v10)), (12, (V.int .i64 v12)), (15, (V.int .i64 v15)), (16, (V.str v16)), (17, (V.int .i64 v17)), (18, (V.int .i64 v18)), (20, (V.int .i64 v20)), (21, (V.str v21)), (22, (V.int .i64 v22))], [], [], σ⟩ (Fin3 E) (fun _ _ => none) (Fin3 E)) v5 v7 σ := by kernel_rfl
theorem P3_4 (cc5 : XC) (cc6 : XL) (v10 : Int) (v12 : Int) (v15 : Int) (v16 : BS) (v17 : Int) (v18 : Int) (v20 : Int) (v21 : BS) (v22 : Int) (σ : H) :
  denC E D W N (C3_4 cc5 cc6) ⟨[(10, (V.int .i64 v10)), (12, (V.int .i64 v12)), (15, (V.int .i64 v15)), (16, (V.str v16)), (17, (V.int .i64 v17)), (18, (V.int .i64 v18)), (20, (V.int .i64 v20)), (21, (V.str v21)), (22, (V.int .i64 v22))], [], [], σ⟩ (Fin3 E) (fun _ _ => none) (Fin3 E) =
  T3_4 E D W (fun m0 m1 m2 m3 m4 m5 m6 m7 m8 m9 m10 m11 m12 m13 m14 m15 m16 σ => denL E D false true 0 cc6 14 [(115, (V.bool m0)), (112, (V.bool m1)), (111, (V.bool m2)), (108, (V.bool m3)), (107, (V.bool m4)), (104, (V.bool m5)), (103, (V.bool m6)), (102, (V.int .i64 m7)), (10, (V.int .i64 m8)), (12, (V.int .i64 m9)), (15, (V.int .i64 m10)), (16, (V.str m11)), (17, (V.int .i64 m12)), (18, (V.int .i64 m13)), (20, (V.int .i64 m14)), (21, (V.str m15)), (22, (V.int .i64 m16))] [] [] σ (fun e q r σ => (fun s' => denC E D W N (.keep [(4, .bool)] [] [] cc5) s' (Fin3 E) (fun _ _ => none) (Fin3 E)) ⟨e, q, r, σ⟩)) v10 v12 v15 v16 v17 v18 v20 v21 v22 σ := by kernel_rfl
theorem P3_5 (v4 : Bool) (σ : H) :
  denC E D W N (C3_5 ) ⟨[(4, (V.bool v4))], [], [], σ⟩ (Fin3 E) (fun _ _ => none) (Fin3 E) =
  T3_5 E D W  v4 σ := by kernel_rfl
theorem P3_6 (cc5 : XC) (cc7 : XL) (m0 : Bool) (m1 : Bool) (m2 : Bool) (m3 : Bool) (m4 : Bool) (m5 : Bool) (m6 : Bool) (m7 : Int) (m8 : Int) (m9 : Int) (m10 : Int) (m11 : BS) (m12 : Int) (m13 : Int) (m14 : Int) (m15 : BS) (m16 : Int) (σ : H) :
  denL E D false true 0 (C3_6 cc7) 14 [(115, (V.bool m0)), (112, (V.bool m1)), (111, (V.bool m2)), (108, (V.bool m3)), (107, (V.bool m4)), (104, (V.bool m5)), (103, (V.bool m6)), (102, (V.int .i64 m7)), (10, (V.int .i64 m8)), (12, (V.int .i64 m9)), (15, (V.int .i64 m10)), (16, (V.str m11)), (17, (V.int .i64 m12)), (18, (V.int .i64 m13)), (20, (V.int .i64 m14)), (21, (V.str m15)), (22, (V.int .i64 m16))] [] [] σ (fun e q r σ => (fun s' => denC E D W N (.keep [(4, .bool)] [] [] cc5) s' (Fin3 E) (fun _ _ => none) (Fin3 E)) ⟨e, q, r, σ⟩) =
  T3_6 E D W (fun m0 m1 m2 m3 m4 m5 m6 m7 m8 m9 m10 m11 m12 m13 m14 m15 m16 m17 m18 m19 m20 m21 m22 σ => denL E D false true 0 cc7 26 [(127, (V.bool m0)), (124, (V.bool m1)), (123, (V.bool m2)), (120, (V.bool m3)), (119, (V.bool m4)), (116, (V.bool m5)), (115, (V.bool m6)), (112, (V.bool m7)), (111, (V.bool m8)), (108, (V.bool m9)), (107, (V.bool m10)), (104, (V.bool m11)), (103, (V.bool m12)), (102, (V.int .i64 m13)), (10, (V.int .i64 m14)), (12, (V.int .i64 m15)), (15, (V.int .i64 m16)), (16, (V.str m17)), (17, (V.int .i64 m18)), (18, (V.int .i64 m19)), (20, (V.int .i64 m20)), (21, (V.str m21)), (22, (V.int .i64 m22))] [] [] σ (fun e q r σ => (fun s' => denC E D W N (.keep [(4, .bool)] [] [] cc5) s' (Fin3 E) (fun _ _ => none) (Fin3 E)) ⟨e, q, r, σ⟩)) m0 m1 m2 m3 m4 m5 m6 m7 m8 m9 m10 m11 m12 m13 m14 m15 m16 σ := by kernel_rfl
theorem P3_7 (cc5 : XC) (m0 : Bool) (m1 : Bool) (m2 : Bool) (m3 : Bool) (m4 : Bool) (m5 : Bool) (m6 : Bool) (m7 : Bool) (m8 : Bool) (m9 : Bool) (m10 : Bool) (m11 : Bool) (m12 : Bool) (m13 : Int) (m14 : Int) (m15 : Int) (m16 : Int) (m17 : BS) (m18 : Int) (m19 : Int) (m20 : Int) (m21 : BS) (m22 : Int) (σ : H) :
  denL E D false true 0 (C3_7 ) 26 [(127, (V.bool m0)), (124, (V.bool m1)), (123, (V.bool m2)), (120, (V.bool m3)), (119, (V.bool m4)), (116, (V.bool m5)), (115, (V.bool m6)), (112, (V.bool m7)), (111, (V.bool m8)), (108, (V.bool m9)), (107, (V.bool m10)), (104, (V.bool m11)), (103, (V.bool m12)), (102, (V.int .i64 m13)), (10, (V.int .i64 m14)), (12, (V.int .i64 m15)), (15, (V.int .i64 m16)), (16, (V.str m17)), (17, (V.int .i64 m18)), (18, (V.int .i64 m19)), (20, (V.int .i64 m20)), (21, (V.str m21)), (22, (V.int .i64 m22))] [] [] σ (fun e q r σ => (fun s' => denC E D W N (.keep [(4, .bool)] [] [] cc5) s' (Fin3 E) (fun _ _ => none) (Fin3 E)) ⟨e, q, r, σ⟩) =
  T3_7 E D W (fun v4 σ => denC E D W N cc5 ⟨[(4, (V.bool v4))], [], [], σ⟩ (Fin3 E) (fun _ _ => none) (Fin3 E)) m0 m1 m2 m3 m4 m5 m6 m7 m8 m9 m10 m11 m12 m13 m14 m15 m16 m17 m18 m19 m20 m21 m22 σ := by kernel_rfl
def J3_5 (E : List (Nat × Blk)) (D : Den) (W : DrawFn) (N : Nat) : Bool → H → Ans := T3_5 E D W 
theorem JE3_5 (v4 : Bool) (σ : H) :
  denC E D W N C3_5 ⟨[(4, (V.bool v4))], [], [], σ⟩ (Fin3 E) (fun _ _ => none) (Fin3 E) = J3_5 E D W N v4 σ := by
  refine (P3_5 E D W N   v4 σ).trans ?_
  kernel_rfl
def J3_7 : Bool → Bool → Bool → Bool → Bool → Bool → Bool → Bool → Bool → Bool → Bool → Bool → Bool → Int → Int → Int → Int → BS → Int → Int → Int → BS → Int → H → Ans := T3_7 E D W (J3_5 E D W N )
theorem JE3_7 (m0 : Bool) (m1 : Bool) (m2 : Bool) (m3 : Bool) (m4 : Bool) (m5 : Bool) (m6 : Bool) (m7 : Bool) (m8 : Bool) (m9 : Bool) (m10 : Bool) (m11 : Bool) (m12 : Bool) (m13 : Int) (m14 : Int) (m15 : Int) (m16 : Int) (m17 : BS) (m18 : Int) (m19 : Int) (m20 : Int) (m21 : BS) (m22 : Int) (σ : H) :
  denL E D false true 0 C3_7 26 [(127, (V.bool m0)), (124, (V.bool m1)), (123, (V.bool m2)), (120, (V.bool m3)), (119, (V.bool m4)), (116, (V.bool m5)), (115, (V.bool m6)), (112, (V.bool m7)), (111, (V.bool m8)), (108, (V.bool m9)), (107, (V.bool m10)), (104, (V.bool m11)), (103, (V.bool m12)), (102, (V.int .i64 m13)), (10, (V.int .i64 m14)), (12, (V.int .i64 m15)), (15, (V.int .i64 m16)), (16, (V.str m17)), (17, (V.int .i64 m18)), (18, (V.int .i64 m19)), (20, (V.int .i64 m20)), (21, (V.str m21)), (22, (V.int .i64 m22))] [] [] σ (fun e q r σ => (fun s' => denC E D W N (.keep [(4, .bool)] [] [] C3_5) s' (Fin3 E) (fun _ _ => none) (Fin3 E)) ⟨e, q, r, σ⟩) = J3_7 E D W N m0 m1 m2 m3 m4 m5 m6 m7 m8 m9 m10 m11 m12 m13 m14 m15 m16 m17 m18 m19 m20 m21 m22 σ := by
  refine (P3_7 E D W N C3_5  m0 m1 m2 m3 m4 m5 m6 m7 m8 m9 m10 m11 m12 m13 m14 m15 m16 m17 m18 m19 m20 m21 m22 σ).trans ?_
  simp only [JE3_5]
  kernel_rfl
def J3_6 : Bool → Bool → Bool → Bool → Bool → Bool → Bool → Int → Int → Int → Int → BS → Int → Int → Int → BS → Int → H → Ans := T3_6 E D W (J3_7 E D W N )
theorem JE3_6 (m0 : Bool) (m1 : Bool) (m2 : Bool) (m3 : Bool) (m4 : Bool) (m5 : Bool) (m6 : Bool) (m7 : Int) (m8 : Int) (m9 : Int) (m10 : Int) (m11 : BS) (m12 : Int) (m13 : Int) (m14 : Int) (m15 : BS) (m16 : Int) (σ : H) :
  denL E D false true 0 (C3_6 C3_7) 14 [(115, (V.bool m0)), (112, (V.bool m1)), (111, (V.bool m2)), (108, (V.bool m3)), (107, (V.bool m4)), (104, (V.bool m5)), (103, (V.bool m6)), (102, (V.int .i64 m7)), (10, (V.int .i64 m8)), (12, (V.int .i64 m9)), (15, (V.int .i64 m10)), (16, (V.str m11)), (17, (V.int .i64 m12)), (18, (V.int .i64 m13)), (20, (V.int .i64 m14)), (21, (V.str m15)), (22, (V.int .i64 m16))] [] [] σ (fun e q r σ => (fun s' => denC E D W N (.keep [(4, .bool)] [] [] C3_5) s' (Fin3 E) (fun _ _ => none) (Fin3 E)) ⟨e, q, r, σ⟩) = J3_6 E D W N m0 m1 m2 m3 m4 m5 m6 m7 m8 m9 m10 m11 m12 m13 m14 m15 m16 σ := by
  refine (P3_6 E D W N C3_5 C3_7  m0 m1 m2 m3 m4 m5 m6 m7 m8 m9 m10 m11 m12 m13 m14 m15 m16 σ).trans ?_
  simp only [JE3_7]
  kernel_rfl
def J3_4 : Int → Int → Int → BS → Int → Int → Int → BS → Int → H → Ans := T3_4 E D W (J3_6 E D W N )
theorem JE3_4 (v10 : Int) (v12 : Int) (v15 : Int) (v16 : BS) (v17 : Int) (v18 : Int) (v20 : Int) (v21 : BS) (v22 : Int) (σ : H) :
  denC E D W N (C3_4 C3_5 (C3_6 C3_7)) ⟨[(10, (V.int .i64 v10)), (12, (V.int .i64 v12)), (15, (V.int .i64 v15)), (16, (V.str v16)), (17, (V.int .i64 v17)), (18, (V.int .i64 v18)), (20, (V.int .i64 v20)), (21, (V.str v21)), (22, (V.int .i64 v22))], [], [], σ⟩ (Fin3 E) (fun _ _ => none) (Fin3 E) = J3_4 E D W N v10 v12 v15 v16 v17 v18 v20 v21 v22 σ := by
  refine (P3_4 E D W N C3_5 (C3_6 C3_7)  v10 v12 v15 v16 v17 v18 v20 v21 v22 σ).trans ?_
  simp only [JE3_6]
  kernel_rfl
def J3_3 : BS → BS → H → Ans := T3_3 E D W (J3_4 E D W N )
theorem JE3_3 (v5 : BS) (v7 : BS) (σ : H) :
  denC E D W N (C3_3 (C3_4 C3_5 (C3_6 C3_7))) ⟨[(5, (V.str v5)), (7, (V.str v7))], [], [], σ⟩ (Fin3 E) (fun _ _ => none) (Fin3 E) = J3_3 E D W N v5 v7 σ := by
  refine (P3_3 E D W N (C3_4 C3_5 (C3_6 C3_7))  v5 v7 σ).trans ?_
  simp only [JE3_4]
  kernel_rfl
def J3_1 : Bool → BS → H → Ans := T3_1 E D W (J3_3 E D W N )
theorem JE3_1 (v0 : Bool) (v5 : BS) (σ : H) :
  denC E D W N (C3_1 (C3_3 (C3_4 C3_5 (C3_6 C3_7)))) ⟨[(0, (V.bool v0)), (5, (V.str v5))], [], [], σ⟩ (Fin3 E) (fun _ _ => none) (Fin3 E) = J3_1 E D W N v0 v5 σ := by
  refine (P3_1 E D W N (C3_3 (C3_4 C3_5 (C3_6 C3_7)))  v0 v5 σ).trans ?_
  simp only [JE3_3]
  kernel_rfl
def L3_2 (n : Nat) : Bool → V → BS → Int → H → Ans :=
  Nat.rec (fun _ _ _ _ _ => none) (fun _ ih => T3_2 E D W (J3_1 E D W N ) ih) n
theorem LE3_2 (n : Nat) : ∀ (v0 : Bool) (v1 : V) (v5 : BS) (v6 : Int) (σ : H),
  iterK (fun rec s' => denC E D W N C3_2 s' (fun s'' => keepS [(0, .bool), (1, .any), (5, .str), (6, .i)] [] [] s'' rec) (blkK 0 (fun s' => denC E D W N (.keep [(0, .bool), (5, .str)] [] [] (C3_1 (C3_3 (C3_4 C3_5 (C3_6 C3_7))))) s' (Fin3 E) (fun _ _ => none) (Fin3 E)) (fun _ _ => none)) (Fin3 E)) n ⟨[(0, (V.bool v0)), (1, v1), (5, (V.str v5)), (6, (V.int .i64 v6))], [], [], σ⟩ = L3_2 E D W N n v0 v1 v5 v6 σ := by
  induction n with
  | zero => intro v0 v1 v5 v6 σ; rfl
  | succ n ihn =>
    intro v0 v1 v5 v6 σ
    rw [iterK_succ]
    refine (P3_2 E D W N (C3_1 (C3_3 (C3_4 C3_5 (C3_6 C3_7)))) (iterK (fun rec s' => denC E D W N C3_2 s' (fun s'' => keepS [(0, .bool), (1, .any), (5, .str), (6, .i)] [] [] s'' rec) (blkK 0 (fun s' => denC E D W N (.keep [(0, .bool), (5, .str)] [] [] (C3_1 (C3_3 (C3_4 C3_5 (C3_6 C3_7))))) s' (Fin3 E) (fun _ _ => none) (Fin3 E)) (fun _ _ => none)) (Fin3 E)) n) v0 v1 v5 v6 σ).trans ?_
    simp only [ihn, JE3_1]
    kernel_rfl
def J3_0 : Bool → V → H → Ans := T3_0 E D W (L3_2 E D W N N)
theorem JE3_0 (v0 : Bool) (v1 : V) (σ : H) :
  denC E D W N (C3_0 (C3_1 (C3_3 (C3_4 C3_5 (C3_6 C3_7)))) C3_2) ⟨[(0, (V.bool v0)), (1, v1)], [], [], σ⟩ (Fin3 E) (fun _ _ => none) (Fin3 E) = J3_0 E D W N v0 v1 σ := by
  refine (P3_0 E D W N (C3_1 (C3_3 (C3_4 C3_5 (C3_6 C3_7)))) C3_2  v0 v1 σ).trans ?_
  simp only [LE3_2]
  kernel_rfl
def F3 (args : List V) (σ : H) : Ans :=
 rtCons args fun x1 l2 =>
 rtBool x1 fun x3 =>
 rtCons l2 fun x4 l5 =>
 rtNil l5 (
 J3_0 E D W N x3 x4 σ)
def A3 : XFn := ⟨133, [.bool, .any], [(.tmp 4)], (C3_0 (C3_1 (C3_3 (C3_4 C3_5 (C3_6 C3_7)))) C3_2)⟩
theorem FE3 (args : List V) (σ : H) : runX E D W N A3 args σ = F3 E D W N args σ := by
  unfold F3
  simp only [← JE3_0]
  kernel_rfl
theorem AO3 : A3.body.ok = true := by kernel_rfl

def C4_0 : XC := (.seq (.ops (.p 0 [] (.mov (.con (V.bool false))) <|
 .nil))
 (.seq (.ops (.op (some 8) .one [] (.call 5 []) <|
 .m 1 8 <|
 .nil))
 (.seq (.seq (.ops (.m 9 1 <|
 .p 10 [9] (.bin .eql .ptr (.t 9) (.con V.nilp)) <|
 .nil))
 (.cond (.tmp 10) (.seq (.ops (.p 0 [] (.mov (.con (V.bool false))) <|
 .nil))
 .ret)
 .skip))
 (.seq (.ops (.m 12 1 <|
 .op (some 13) (.tup [.i, .i, .i]) [12] (.call 6 [(.t 12), (.con (V.str ⟨38, 8696328401110393999863008430138354213846351527998628442106982968015151536563225768914853965⟩))]) <|
 .m 11 13 <|
 .p 14 [11] (.extract 0 (.t 11)) <|
 .p 15 [11] (.extract 1 (.t 11)) <|
 .p 16 [11] (.extract 2 (.t 11)) <|
 .m 2 14 <|
 .m 3 15 <|
 .m 4 16 <|
 .nil))
 (.seq (.ops (.m 18 1 <|
 .op (some 19) (.tup [.i, .i, .i]) [18] (.call 6 [(.t 18), (.con (V.str ⟨38, 8696328401110393999863008430138354213846351527998628442106982968015151536563225768914853965⟩))]) <|
 .m 17 19 <|
 .p 20 [17] (.extract 0 (.t 17)) <|
 .p 21 [17] (.extract 1 (.t 17)) <|
 .p 22 [17] (.extract 2 (.t 17)) <|
 .m 5 20 <|
 .m 6 21 <|
 .m 7 22 <|
 .nil))
 (.seq (.ops (.m 23 2 <|
 .p 24 [23] (.bin .eql .none (.t 23) (.i 1)) <|
 .m 25 24 <|
 .grp 25 true (.p 26 [4, 25] (.mov (.t 4)) <|
 .p 27 [26, 25] (.bin .eql .none (.t 26) (.i 0)) <|
 .nil) 28 [25, 27] (.t 25) (.t 27) (.con (V.bool false)) <|
 .m 29 28 <|
 .grp 29 true (.p 30 [7, 29] (.mov (.t 7)) <|
 .p 31 [30, 29] (.bin .eql .none (.t 30) (.i 8)) <|
 .nil) 32 [29, 31] (.t 29) (.t 31) (.con (V.bool false)) <|
 .m 33 32 <|
 .grp 33 true (.p 34 [1, 33] (.mov (.t 1)) <|
 .op (some 35) .one [34, 33] (.call 8 [(.t 34)]) <|
 .p 36 [35, 33] (.len false (.t 35)) <|
 .p 37 [36, 33] (.bin .eql .none (.t 36) (.i 1)) <|
 .nil) 38 [33, 37] (.t 33) (.t 37) (.con (V.bool false)) <|
 .m 0 38 <|
 .nil))
 .ret))))))
def A4 : XFn := ⟨39, [], [(.tmp 0)], C4_0⟩
/-! ### F5: ogham_store.New -/
def Fin5 (E : List (Nat × Blk)) : St → Ans := fun s => resK E s [(.tmp 0)] fun l => some (oneV l, s.σ)
def C5_0 : XC := (.seq (.ops (.p 0 [] (.mov (.con V.nilp)) <|
 .nil))
 (.seq (.ops (.op (some 1) (.agg [.any]) [] (.build [V.nils] []) <|
 .p 2 [1] (.box 38 (.t 1)) <|
 .m 0 2 <|
 .nil))
 .ret))
def T5_0 (E : List (Nat × Blk)) (D : Den) (W : DrawFn) (σ : H) : Ans :=
 chk (allOne (V.cells (V.agg [V.nils]))) (
 let s1 := newB σ (.cells (V.cells (V.agg [V.nils])));
 some ((V.ptr (H.next σ) 0), s1))
theorem P5_0 (σ : H) :
  denC E D W N (C5_0 ) ⟨[], [], [], σ⟩ (Fin5 E) (fun _ _ => none) (Fin5 E) =
  T5_0 E D W   σ := by kernel_rfl
def J5_0 (E : List (Nat × Blk)) (D : Den) (W : DrawFn) (N : Nat) : H → Ans := T5_0 E D W 
theorem JE5_0 (σ : H) :
  denC E D W N C5_0 ⟨[], [], [], σ⟩ (Fin5 E) (fun _ _ => none) (Fin5 E) = J5_0 E D W N  σ := by
  refine (P5_0 E D W N    σ).trans ?_
  kernel_rfl
def F5 (args : List V) (σ : H) : Ans :=
 rtNil args (
 J5_0 E D W N  σ)
def A5 : XFn := ⟨3, [], [(.tmp 0)], C5_0⟩
theorem FE5 (args : List V) (σ : H) : runX E D W N A5 args σ = F5 E D W N args σ := by
  unfold F5
  simp only [← JE5_0]
  kernel_rfl
theorem AO5 : A5.body.ok = true := by kernel_rfl

/-! ### F6: __ogham_store.Store_.Register -/
def Fin6 (E : List (Nat × Blk)) : St → Ans := fun s => resK E s [(.tmp 4), (.tmp 5), (.tmp 6)] fun l => some (oneV l, s.σ)
def C6_0 : XC := (.seq (.ops (.p 4 [] (.mov (.i 0)) <|
 .p 5 [] (.mov (.i 0)) <|
 .p 6 [] (.mov (.i 0)) <|
 .nil))
 (.seq (.seq (.ops (.m 12 0 <|
 .p 13 [12] (.bin .eql .ptr (.t 12) (.con V.nilp)) <|
 .nil))
 (.cond (.tmp 13) (.seq (.ops (.p 4 [] (.mov (.i 0)) <|
 .p 5 [] (.mov (.i 0)) <|
 .p 6 [] (.mov (.i 2)) <|
 .nil))
 .ret)
 .skip))
 (.seq (.ops (.m 15 1 <|
 .op (some 16) (.tup [(.agg [.i, .str, .str, .any, .any, .any]), .i, .i]) [15] (.call 9 [(.t 15)]) <|
 .m 14 16 <|
 .p 17 [14] (.extract 0 (.t 14)) <|
 .p 18 [14] (.extract 1 (.t 14)) <|
 .p 19 [14] (.extract 2 (.t 14)) <|
 .pal 7 [] 46 [(V.int .i64 (Int.ofNat 0)), (V.str ⟨0, 0⟩), (V.str ⟨0, 0⟩), V.nils, V.nils, V.nils] <|
 .op none (.agg [.i, .str, .str, .any, .any, .any]) [7, 17] (.store 6 (.t 7) (.t 17)) <|
 .m 8 18 <|
 .m 9 19 <|
 .nil))
 (.seq (.seq (.ops (.m 20 9 <|
 .p 21 [20] (.bin .neq .none (.t 20) (.i 0)) <|
 .nil))
 (.cond (.tmp 21) (.seq (.ops (.m 22 8 <|
 .m 23 9 <|
 .p 4 [] (.mov (.i 0)) <|
 .m 5 22 <|
 .m 6 23 <|
 .nil))
 .ret)
 .skip))
 (.seq (.seq (.ops (.m 25 0 <|
 .op (some 26) (.agg [.i, .str, .str, .any, .any, .any]) [7] (.load (some 6) (.t 7)) <|
 .op (some 27) (.tup [.i, .i]) [25, 26] (.call 10 [(.t 25), (.t 26)]) <|
 .m 24 27 <|
 .p 28 [24] (.extract 0 (.t 24)) <|
 .p 29 [24] (.extract 1 (.t 24)) <|
 .m 10 28 <|
 .m 11 29 <|
 .nil))
 (.seq (.ops (.m 30 11 <|
 .p 31 [30] (.bin .neq .none (.t 30) (.i 0)) <|
 .nil))
 (.cond (.tmp 31) (.seq (.ops (.m 32 10 <|
 .m 33 11 <|
 .p 4 [] (.mov (.i 0)) <|
 .m 5 32 <|
 .m 6 33 <|
 .nil))
 .ret)
 .skip)))
 (.seq (.draw (.m 34 0 <|
 .p 35 [34] (.nilck (.t 34)) <|
 .p 36 [35] (.faddr 0 (.t 35)) <|
 .p 37 [7] (.faddr 2 (.t 7)) <|
 .p 38 [37] (.faddr 0 (.t 37)) <|
 .op (some 39) .str [38] (.load none (.t 38)) <|
 .op (some 40) .one [36, 39] (.call 11 [(.t 36), (.t 39)]) <|
 .p 41 [40] (.len false (.t 40)) <|
 .p 42 [41] (.bin .add .none (.t 41) (.i 1)) <|
 .p 43 [7] (.faddr 0 (.t 7)) <|
 .p 44 [43] (.faddr 0 (.t 43)) <|
 .op none .any [44, 42] (.store 1 (.t 44) (.t 42)) <|
 .nil) [0, 1, 3, 0, 8, 24, 63, 127, 255, 511, 1023, 2047])
 (.seq (.draw (.m 45 0 <|
 .p 46 [45] (.nilck (.t 45)) <|
 .p 47 [46] (.faddr 0 (.t 46)) <|
 .p 48 [7] (.faddr 2 (.t 7)) <|
 .p 49 [48] (.faddr 0 (.t 48)) <|
 .op (some 50) .str [49] (.load none (.t 49)) <|
 .op (some 51) (.agg [.i, .str, .str, .any, .any, .any]) [7] (.load (some 6) (.t 7)) <|
 .op (some 52) (.tup []) [47, 50, 51] (.call 12 [(.t 47), (.t 50), (.t 51)]) <|
 .nil) [0, 1, 3, 0, 8, 24, 0, 127])
 (.seq (.ops (.p 53 [7] (.faddr 0 (.t 7)) <|
 .p 54 [53] (.faddr 0 (.t 53)) <|
 .op (some 55) .i [54] (.load none (.t 54)) <|
 .m 4 55 <|
 .p 5 [] (.mov (.i 0)) <|
 .p 6 [] (.mov (.i 0)) <|
 .nil))
 .ret))))))))
def T6_0 (E : List (Nat × Blk)) (D : Den) (W : DrawFn) (v0 : V) (v1 : BS) (σ : H) : Ans :=
 eqK .ptr v0 V.nilp fun c1 =>
 condK c1 (
 some ((V.tup [(V.int .i64 (Int.ofNat 0)), (V.int .i64 (Int.ofNat 0)), (V.int .i64 (Int.ofNat 2))]), σ)) (
 callK (D 9 [(V.str v1)] σ) fun u2 s3 =>
 rtTup u2 fun l4 =>
 rtCons l4 fun x5 l6 =>
 rtAgg x5 fun l7 =>
 rtCons l7 fun x8 l9 =>
 rtInt .i64 x8 fun x10 =>
 rtCons l9 fun x11 l12 =>
 rtStr x11 fun x13 =>
 rtCons l12 fun x14 l15 =>
 rtStr x14 fun x16 =>
 rtCons l15 fun x17 l18 =>
 rtCons l18 fun x19 l20 =>
 rtCons l20 fun x21 l22 =>
 rtNil l22 (
 rtCons l6 fun x23 l24 =>
 rtInt .i64 x23 fun x25 =>
 rtCons l24 fun x26 l27 =>
 rtInt .i64 x26 fun x28 =>
 rtNil l27 (
 chk (allOne [(V.int .i64 x10), (V.str x13), (V.str x16), x17, x19, x21]) (
 condK (not (eqF x28 (Int.ofNat 0))) (
 some ((V.tup [(V.int .i64 (Int.ofNat 0)), (V.int .i64 x25), (V.int .i64 x28)]), s3)) (
 callK (D 10 [v0, (V.agg [(V.int .i64 x10), (V.str x13), (V.str x16), x17, x19, x21])] s3) fun u29 s30 =>
 rtTup u29 fun l31 =>
 rtCons l31 fun x32 l33 =>
 rtInt .i64 x32 fun x34 =>
 rtCons l33 fun x35 l36 =>
 rtInt .i64 x35 fun x37 =>
 rtNil l36 (
 condK (not (eqF x37 (Int.ofNat 0))) (
 some ((V.tup [(V.int .i64 (Int.ofNat 0)), (V.int .i64 x34), (V.int .i64 x37)]), s30)) (
 rtPtr v0 fun b38 o39 =>
 callK (D 11 [(V.ptr b38 o39), (V.str x16)] s30) fun u40 s41 =>
 rtOne u40 (
 slenK u40 fun n42 =>
 rtPtr v0 fun b43 o44 =>
 callK (D 12 [(V.ptr b43 o44), (V.str x16), (V.agg [(V.int .i64 (addF .i64 (Int.ofNat n42) (Int.ofNat 1))), (V.str x13), (V.str x16), x17, x19, x21])] s41) fun u45 s46 =>
 rtTup u45 fun l47 =>
 rtNil l47 (
 some ((V.tup [(V.int .i64 (addF .i64 (Int.ofNat n42) (Int.ofNat 1))), (V.int .i64 (Int.ofNat 0)), (V.int .i64 (Int.ofNat 0))]), s46))))))))))
theorem P6_0 (v0 : V) (v1 : BS) (σ : H) :
  denC E D W N (C6_0 ) ⟨[(0, v0), (1, (V.str v1))], [], [], σ⟩ (Fin6 E) (fun _ _ => none) (Fin6 E) =
  T6_0 E D W  v0 v1 σ := by kernel_rfl
def J6_0 (E : List (Nat × Blk)) (D : Den) (W : DrawFn) (N : Nat) : V → BS → H → Ans := T6_0 E D W 
theorem JE6_0 (v0 : V) (v1 : BS) (σ : H) :
  denC E D W N C6_0 ⟨[(0, v0), (1, (V.str v1))], [], [], σ⟩ (Fin6 E) (fun _ _ => none) (Fin6 E) = J6_0 E D W N v0 v1 σ := by
  refine (P6_0 E D W N   v0 v1 σ).trans ?_
  kernel_rfl
def F6 (args : List V) (σ : H) : Ans :=
 rtCons args fun x1 l2 =>
 rtCons l2 fun x3 l4 =>
 rtStr x3 fun x5 =>
 rtNil l4 (
 J6_0 E D W N x1 x5 σ)
def A6 : XFn := ⟨56, [.any, .str], [(.tmp 4), (.tmp 5), (.tmp 6)], C6_0⟩
theorem FE6 (args : List V) (σ : H) : runX E D W N A6 args σ = F6 E D W N args σ := by
  unfold F6
  simp only [← JE6_0]
  kernel_rfl
theorem AO6 : A6.body.ok = true := by kernel_rfl

/-! ### F7: __ogham_store.Store_.Fetch -/
def Fin7 (E : List (Nat × Blk)) : St → Ans := fun s => resK E s [(.tmp 6), (.tmp 7)] fun l => some (oneV l, s.σ)
def C7_0 : XC := (.seq (.ops (.p 6 [] (.mov (.con (V.str ⟨0, 0⟩))) <|
 .p 7 [] (.mov (.i 0)) <|
 .nil))
 (.seq (.ops (.m 11 0 <|
 .m 12 1 <|
 .m 13 2 <|
 .op (some 14) (.tup [(.agg [.i, .str, .str, .any, .any, .any]), .i]) [11, 12, 13] (.call 13 [(.t 11), (.t 12), (.t 13)]) <|
 .m 10 14 <|
 .p 15 [10] (.extract 0 (.t 10)) <|
 .p 16 [10] (.extract 1 (.t 10)) <|
 .pal 8 [] 46 [(V.int .i64 (Int.ofNat 0)), (V.str ⟨0, 0⟩), (V.str ⟨0, 0⟩), V.nils, V.nils, V.nils] <|
 .op none (.agg [.i, .str, .str, .any, .any, .any]) [8, 15] (.store 6 (.t 8) (.t 15)) <|
 .m 9 16 <|
 .nil))
 (.seq (.ops (.p 17 [8] (.faddr 0 (.t 8)) <|
 .p 18 [17] (.faddr 1 (.t 17)) <|
 .op (some 19) .str [18] (.load none (.t 18)) <|
 .m 20 9 <|
 .m 6 19 <|
 .m 7 20 <|
 .nil))
 .ret)))
def T7_0 (E : List (Nat × Blk)) (D : Den) (W : DrawFn) (v0 : V) (v1 : BS) (v2 : Int) (σ : H) : Ans :=
 callK (D 13 [v0, (V.str v1), (V.int .i64 v2)] σ) fun u1 s2 =>
 rtTup u1 fun l3 =>
 rtCons l3 fun x4 l5 =>
 rtAgg x4 fun l6 =>
 rtCons l6 fun x7 l8 =>
 rtInt .i64 x7 fun x9 =>
 rtCons l8 fun x10 l11 =>
 rtStr x10 fun x12 =>
 rtCons l11 fun x13 l14 =>
 rtStr x13 fun x15 =>
 rtCons l14 fun x16 l17 =>
 rtCons l17 fun x18 l19 =>
 rtCons l19 fun x20 l21 =>
 rtNil l21 (
 rtCons l5 fun x22 l23 =>
 rtInt .i64 x22 fun x24 =>
 rtNil l23 (
 chk (allOne [(V.int .i64 x9), (V.str x12), (V.str x15), x16, x18, x20]) (
 some ((V.tup [(V.str x12), (V.int .i64 x24)]), s2))))
theorem P7_0 (v0 : V) (v1 : BS) (v2 : Int) (σ : H) :
  denC E D W N (C7_0 ) ⟨[(0, v0), (1, (V.str v1)), (2, (V.int .i64 v2))], [], [], σ⟩ (Fin7 E) (fun _ _ => none) (Fin7 E) =
  T7_0 E D W  v0 v1 v2 σ := by kernel_rfl
def J7_0 (E : List (Nat × Blk)) (D : Den) (W : DrawFn) (N : Nat) : V → BS → Int → H → Ans := T7_0 E D W 
theorem JE7_0 (v0 : V) (v1 : BS) (v2 : Int) (σ : H) :
  denC E D W N C7_0 ⟨[(0, v0), (1, (V.str v1)), (2, (V.int .i64 v2))], [], [], σ⟩ (Fin7 E) (fun _ _ => none) (Fin7 E) = J7_0 E D W N v0 v1 v2 σ := by
  refine (P7_0 E D W N   v0 v1 v2 σ).trans ?_
  kernel_rfl
def F7 (args : List V) (σ : H) : Ans :=
 rtCons args fun x1 l2 =>
 rtCons l2 fun x3 l4 =>
 rtStr x3 fun x5 =>
 rtCons l4 fun x6 l7 =>
 rtInt .i64 x6 fun x8 =>
 rtNil l7 (
 J7_0 E D W N x1 x5 x8 σ)
def A7 : XFn := ⟨21, [.any, .str, .i], [(.tmp 6), (.tmp 7)], C7_0⟩
theorem FE7 (args : List V) (σ : H) : runX E D W N A7 args σ = F7 E D W N args σ := by
  unfold F7
  simp only [← JE7_0]
  kernel_rfl
theorem AO7 : A7.body.ok = true := by kernel_rfl

def C8_0 (cc1 : XC) (cc2 : XC) : XC := (.seq (.ops (.p 2 [] (.mov (.con V.nils)) <|
 .nil))
 (.seq (.ops (.p 3 [] (.mov (.con V.nils)) <|
 .nil))
 (.seq (.seq (.ops (.m 6 0 <|
 .p 7 [6] (.bin .neq .ptr (.t 6) (.con V.nilp)) <|
 .nil))
 (.cond (.tmp 7) (.seq (.ops (.m 8 0 <|
 .p 9 [8] (.nilck (.t 8)) <|
 .p 10 [9] (.faddr 0 (.t 9)) <|
 .p 11 [10] (.faddr 0 (.t 10)) <|
 .p 12 [11] (.load none (.t 11)) <|
 .p 13 [12] (.len false (.t 12)) <|
 .p 14 [] (.mov (.i 0)) <|
 .nil))
 (.block 0 (.loop [(3, .any), (12, .any), (13, .i), (14, .i)] [] [] cc2)))
 .skip))
 (.keep [(3, .any)] [] [] cc1))))
def C8_1 : XC := (.seq (.ops (.m 24 3 <|
 .m 2 24 <|
 .nil))
 .ret)
def C8_2 : XC := (.seq (.ops (.p 15 [14, 13] (.bin .lss .none (.t 14) (.t 13)) <|
 .nil))
 (.seq (.cond (.tmp 15) .skip
 (.exit 0))
 (.seq (.block 1 (.seq (.ops (.p 16 [12, 14] (.iaddrS 2 (.t 12) (.t 14)) <|
 .op (some 17) (.agg [.str, .any]) [16] (.load (some 2) (.t 16)) <|
 .pal 5 [] 57 [(V.str ⟨0, 0⟩), V.nils] <|
 .op none (.agg [.str, .any]) [5, 17] (.store 2 (.t 5) (.t 17)) <|
 .nil))
 (.ops (.m 18 3 <|
 .p 19 [5] (.faddr 0 (.t 5)) <|
 .op (some 20) .str [19] (.load none (.t 19)) <|
 .p 21 [20] (.buildSlice 9 1 [(V.str ⟨0, 0⟩)] [(0, 1, (.t 20))]) <|
 .op (some 22) .one [18, 21] (.append 9 1 16 (.t 18) (.t 21)) <|
 .m 3 22 <|
 .nil))))
 (.ops (.p 23 [14] (.bin .add .none (.t 14) (.i 1)) <|
 .m 14 23 <|
 .nil)))))
def A8 : XFn := ⟨25, [.any], [(.tmp 2)], (C8_0 C8_1 C8_2)⟩
/-! ### F9: ogham_store.read -/
def G9_0 : List AOper := [⟨(some 31), .load (some 5) (.tmp 5), none⟩, ⟨(some 32), .call 16 [(.tmp 31)], none⟩, ⟨(some 33), .build [(V.int .i64 (Int.ofNat 0)), (V.str ⟨0, 0⟩)] [(1, 1, (.tmp 32))], none⟩, ⟨(some 34), .load (some 4) (.tmp 8), none⟩, ⟨(some 35), .build [(V.int .i64 (Int.ofNat 0)), (V.str ⟨0, 0⟩), (V.str ⟨0, 0⟩), V.nils, V.nils, V.nils] [(0, 2, (.tmp 33)), (2, 4, (.tmp 34))], none⟩, ⟨none, .store 6 (.tmp 2) (.tmp 35), none⟩, ⟨(some 3), .mov (.con (V.int .i64 (Int.ofNat 0))), none⟩, ⟨(some 4), .mov (.con (V.int .i64 (Int.ofNat 0))), none⟩]
def H9_0 : List DP := [⟨0, [5]⟩, ⟨1, [31]⟩, ⟨3, [32]⟩, ⟨0, [8]⟩, ⟨15, [33, 34]⟩, ⟨31, [2, 35]⟩, ⟨63, []⟩, ⟨127, []⟩]
def Fin9 (E : List (Nat × Blk)) : St → Ans := fun s => resK E s [(.cell 2 (some 6)), (.tmp 3), (.tmp 4)] fun l => some (oneV l, s.σ)
def C9_0 : XC := (.seq (.ops (.p 2 [] (.alloc 46 [(V.int .i64 (Int.ofNat 0)), (V.str ⟨0, 0⟩), (V.str ⟨0, 0⟩), V.nils, V.nils, V.nils]) <|
 .p 3 [] (.mov (.i 0)) <|
 .p 4 [] (.mov (.i 0)) <|
 .nil))
 (.seq (.ops (.m 10 0 <|
 .op (some 11) (.tup [(.agg [.str, .i, .any, .any, .any]), .i, .i]) [10] (.call 14 [(.t 10)]) <|
 .m 9 11 <|
 .p 12 [9] (.extract 0 (.t 9)) <|
 .p 13 [9] (.extract 1 (.t 9)) <|
 .p 14 [9] (.extract 2 (.t 9)) <|
 .p 5 [] (.alloc 60 [(V.str ⟨0, 0⟩), (V.int .i64 (Int.ofNat 0)), V.nils, V.nils, V.nils]) <|
 .op none (.agg [.str, .i, .any, .any, .any]) [5, 12] (.store 5 (.t 5) (.t 12)) <|
 .m 6 13 <|
 .m 7 14 <|
 .nil))
 (.seq (.seq (.ops (.m 15 7 <|
 .p 16 [15] (.bin .neq .none (.t 15) (.i 0)) <|
 .nil))
 (.cond (.tmp 16) (.seq (.ops (.op (some 17) (.agg [.i, .str, .str, .any, .any, .any]) [] (.build [(V.int .i64 (Int.ofNat 0)), (V.str ⟨0, 0⟩), (V.str ⟨0, 0⟩), V.nils, V.nils, V.nils] []) <|
 .m 18 6 <|
 .m 19 7 <|
 .op none (.agg [.i, .str, .str, .any, .any, .any]) [2, 17] (.store 6 (.t 2) (.t 17)) <|
 .m 3 18 <|
 .m 4 19 <|
 .nil))
 .ret)
 .skip))
 (.seq (.ops (.op (some 21) (.agg [.str, .i, .any, .any, .any]) [5] (.load (some 5) (.t 5)) <|
 .op (some 22) (.tup [(.agg [.str, .any, .any, .any]), .i, .i]) [21] (.call 15 [(.t 21)]) <|
 .m 20 22 <|
 .p 23 [20] (.extract 0 (.t 20)) <|
 .p 24 [20] (.extract 1 (.t 20)) <|
 .p 25 [20] (.extract 2 (.t 20)) <|
 .p 8 [] (.alloc 44 [(V.str ⟨0, 0⟩), V.nils, V.nils, V.nils]) <|
 .op none (.agg [.str, .any, .any, .any]) [8, 23] (.store 4 (.t 8) (.t 23)) <|
 .m 6 24 <|
 .m 7 25 <|
 .nil))
 (.seq (.seq (.ops (.m 26 7 <|
 .p 27 [26] (.bin .neq .none (.t 26) (.i 0)) <|
 .nil))
 (.cond (.tmp 27) (.seq (.ops (.op (some 28) (.agg [.i, .str, .str, .any, .any, .any]) [] (.build [(V.int .i64 (Int.ofNat 0)), (V.str ⟨0, 0⟩), (V.str ⟨0, 0⟩), V.nils, V.nils, V.nils] []) <|
 .m 29 6 <|
 .m 30 7 <|
 .op none (.agg [.i, .str, .str, .any, .any, .any]) [2, 28] (.store 6 (.t 2) (.t 28)) <|
 .m 3 29 <|
 .m 4 30 <|
 .nil))
 .ret)
 .skip))
 (.seq (.keep [(2, .ptr), (5, .ptr), (8, .ptr)] [] [] (.gdraw G9_0 H9_0 [(2, .ptr), (3, .i), (4, .i)]))
 .ret))))))
def T9_0 (v0 : BS) (σ : H) : Ans :=
 let s1 := newB σ (.cells [(V.int .i64 (Int.ofNat 0)), (V.str ⟨0, 0⟩), (V.str ⟨0, 0⟩), V.nils, V.nils, V.nils]);
 callK (D 14 [(V.str v0)] s1) fun u2 s3 =>
 rtTup u2 fun l4 =>
 rtCons l4 fun x5 l6 =>
 rtAgg x5 fun l7 =>
 rtCons l7 fun x8 l9 =>
 rtStr x8 fun x10 =>
 rtCons l9 fun x11 l12 =>
 rtInt .i64 x11 fun x13 =>
 rtCons l12 fun x14 l15 =>
 rtCons l15 fun x16 l17 =>
 rtCons l17 fun x18 l19 =>
 rtNil l19 (
 rtCons l6 fun x20 l21 =>
 rtInt .i64 x20 fun x22 =>
 rtCons l21 fun x23 l24 =>
 rtInt .i64 x23 fun x25 =>
 rtNil l24 (
 let s26 := newB s3 (.cells [(V.str ⟨0, 0⟩), (V.int .i64 (Int.ofNat 0)), V.nils, V.nils, V.nils]);
 stK 5 (H.next s3) 0 (V.agg [(V.str x10), (V.int .i64 x13), x14, x16, x18]) s26 fun s27 =>
 condK (not (eqF x25 (Int.ofNat 0))) (
 stK 6 (H.next σ) 0 (V.agg [(V.int .i64 (Int.ofNat 0)), (V.str (BS.mk 0 0)), (V.str (BS.mk 0 0)), V.nils, V.nils, V.nils]) s27 fun s28 =>
 ldnK E s28 (H.next σ) 0 6 fun u29 =>
 some ((V.tup [(V.agg u29), (V.int .i64 x22), (V.int .i64 x25)]), s28)) (
 ldnK E s27 (H.next s3) 0 5 fun l30 =>
 rtCons l30 fun x31 l32 =>
 rtStr x31 fun x33 =>
 rtCons l32 fun x34 l35 =>
 rtInt .i64 x34 fun x36 =>
 rtCons l35 fun x37 l38 =>
 rtCons l38 fun x39 l40 =>
 rtCons l40 fun x41 l42 =>
 rtNil l42 (
 callK (D 15 [(V.agg [(V.str x33), (V.int .i64 x36), x37, x39, x41])] s27) fun u43 s44 =>
 rtTup u43 fun l45 =>
 rtCons l45 fun x46 l47 =>
 rtAgg x46 fun l48 =>
 rtCons l48 fun x49 l50 =>
 rtStr x49 fun x51 =>
 rtCons l50 fun x52 l53 =>
 rtCons l53 fun x54 l55 =>
 rtCons l55 fun x56 l57 =>
 rtNil l57 (
 rtCons l47 fun x58 l59 =>
 rtInt .i64 x58 fun x60 =>
 rtCons l59 fun x61 l62 =>
 rtInt .i64 x61 fun x63 =>
 rtNil l62 (
 let s64 := newB s44 (.cells [(V.str ⟨0, 0⟩), V.nils, V.nils, V.nils]);
 stK 4 (H.next s44) 0 (V.agg [(V.str x51), x52, x54, x56]) s64 fun s65 =>
 condK (not (eqF x63 (Int.ofNat 0))) (
 stK 6 (H.next σ) 0 (V.agg [(V.int .i64 (Int.ofNat 0)), (V.str (BS.mk 0 0)), (V.str (BS.mk 0 0)), V.nils, V.nils, V.nils]) s65 fun s66 =>
 ldnK E s66 (H.next σ) 0 6 fun u67 =>
 some ((V.tup [(V.agg u67), (V.int .i64 x60), (V.int .i64 x63)]), s66)) (
 gdrawK (W G9_0 H9_0 [(2, (V.ptr (H.next σ) 0)), (5, (V.ptr (H.next s3) 0)), (8, (V.ptr (H.next s44) 0))] s65) fun e68 s69 =>
 getL e68 2 fun u70 =>
 rtPtr u70 fun b71 o72 =>
 getL e68 3 fun u73 =>
 rtInt .i64 u73 fun x74 =>
 getL e68 4 fun u75 =>
 rtInt .i64 u75 fun x76 =>
 ldnK E s69 b71 o72 6 fun u77 =>
 some ((V.tup [(V.agg u77), (V.int .i64 x74), (V.int .i64 x76)]), s69))))))))
theorem P9_0 (v0 : BS) (σ : H) :
  denC E D W N (C9_0 ) ⟨[(0, (V.str v0))], [], [], σ⟩ (Fin9 E) (fun _ _ => none) (Fin9 E) =
  T9_0 E D W  v0 σ := by kernel_rfl
def J9_0 (E : List (Nat × Blk)) (D : Den) (W : DrawFn) (N : Nat) : BS → H → Ans := T9_0 E D W 
theorem JE9_0 (v0 : BS) (σ : H) :
  denC E D W N C9_0 ⟨[(0, (V.str v0))], [], [], σ⟩ (Fin9 E) (fun _ _ => none) (Fin9 E) = J9_0 E D W N v0 σ := by
  refine (P9_0 E D W N   v0 σ).trans ?_
  kernel_rfl
def F9 (args : List V) (σ : H) : Ans :=
 rtCons args fun x1 l2 =>
 rtStr x1 fun x3 =>
 rtNil l2 (
 J9_0 E D W N x3 σ)
def A9 : XFn := ⟨36, [.str], [(.cell 2 (some 6)), (.tmp 3), (.tmp 4)], C9_0⟩
theorem FE9 (args : List V) (σ : H) : runX E D W N A9 args σ = F9 E D W N args σ := by
  unfold F9
  simp only [← JE9_0]
  kernel_rfl
theorem AO9 : A9.body.ok = true := by kernel_rfl

/-! ### F10: __ogham_store.Store_.may -/
def Fin10 (E : List (Nat × Blk)) : St → Ans := fun s => resK E s [(.tmp 4), (.tmp 5)] fun l => some (oneV l, s.σ)
def C10_0 (cc1 : XC) : XC := (.seq (.ops (.p 3 [1] (.box 46 (.t 1)) <|
 .p 4 [] (.mov (.i 0)) <|
 .p 5 [] (.mov (.i 0)) <|
 .nil))
 (.seq (.draw (.m 10 0 <|
 .p 11 [10] (.nilck (.t 10)) <|
 .p 12 [11] (.faddr 0 (.t 11)) <|
 .p 13 [3] (.faddr 2 (.t 3)) <|
 .p 14 [13] (.faddr 0 (.t 13)) <|
 .op (some 15) .str [14] (.load none (.t 14)) <|
 .op (some 16) .one [12, 15] (.call 11 [(.t 12), (.t 15)]) <|
 .m 6 16 <|
 .nil) [0, 1, 3, 0, 8, 24, 63, 127])
 (.seq (.seq (.ops (.p 17 [3] (.faddr 0 (.t 3)) <|
 .p 18 [17] (.faddr 1 (.t 17)) <|
 .op (some 19) .str [18] (.load none (.t 18)) <|
 .p 20 [19] (.bin .neq .none (.t 19) (.con (V.str ⟨0, 0⟩))) <|
 .m 21 20 <|
 .grp 21 true (.p 22 [6, 21] (.mov (.t 6)) <|
 .p 23 [3, 21] (.mkfn 18 [] [(.t 3)]) <|
 .op (some 24) .bool [22, 23, 21] (.call 17 [(.t 22), (.t 23)]) <|
 .nil) 25 [21, 24] (.t 21) (.t 24) (.con (V.bool false)) <|
 .nil))
 (.cond (.tmp 25) (.seq (.ops (.p 4 [] (.mov (.i 0)) <|
 .p 5 [] (.mov (.i 8)) <|
 .nil))
 .ret)
 .skip))
 (.seq (.seq (.ops (.m 26 6 <|
 .p 27 [26] (.len false (.t 26)) <|
 .m 7 27 <|
 .nil))
 (.seq (.ops (.m 28 7 <|
 .p 29 [28] (.bin .gtr .none (.t 28) (.i 0)) <|
 .nil))
 (.cond (.tmp 29) (.seq (.draw (.m 31 6 <|
 .m 32 7 <|
 .p 33 [32] (.bin .sub .none (.t 32) (.i 1)) <|
 .p 34 [31, 33] (.iaddrS 6 (.t 31) (.t 33)) <|
 .p 35 [34] (.faddr 2 (.t 34)) <|
 .op (some 36) (.agg [.str, .any, .any, .any]) [35] (.load (some 4) (.t 35)) <|
 .p 37 [3] (.faddr 2 (.t 3)) <|
 .op (some 38) (.agg [.str, .any, .any, .any]) [37] (.load (some 4) (.t 37)) <|
 .op (some 39) (.tup [.i, .i]) [36, 38] (.call 19 [(.t 36), (.t 38)]) <|
 .m 30 39 <|
 .p 40 [30] (.extract 0 (.t 30)) <|
 .p 41 [30] (.extract 1 (.t 30)) <|
 .m 8 40 <|
 .m 9 41 <|
 .nil) [0, 0, 2, 7, 15, 31, 0, 64, 255, 511, 1023, 1023, 2047, 8191])
 (.seq (.ops (.m 42 9 <|
 .p 43 [42] (.bin .neq .none (.t 42) (.i 0)) <|
 .nil))
 (.cond (.tmp 43) (.seq (.ops (.m 44 8 <|
 .m 45 9 <|
 .m 4 44 <|
 .m 5 45 <|
 .nil))
 .ret)
 .skip)))
 .skip)))
 (.keep [(0, .ptr), (3, .ptr), (6, .any)] [] [] cc1)))))
def T10_0 (E : List (Nat × Blk)) (D : Den) (W : DrawFn) (K1 : Nat → Nat → Nat → Nat → V → H → Ans) (v0b : Nat) (v0o : Nat) (v1_0 : Int) (v1_1 : BS) (v1_2 : BS) (v1_3 : V) (v1_4 : V) (v1_5 : V) (σ : H) : Ans :=
 chk (allOne (V.cells (V.agg [(V.int .i64 v1_0), (V.str v1_1), (V.str v1_2), v1_3, v1_4, v1_5]))) (
 let s1 := newB σ (.cells (V.cells (V.agg [(V.int .i64 v1_0), (V.str v1_1), (V.str v1_2), v1_3, v1_4, v1_5])));
 ldK E s1 (H.next σ) 2 fun u2 =>
 rtStr u2 fun x3 =>
 callK (D 11 [(V.ptr v0b v0o), (V.str x3)] s1) fun u4 s5 =>
 rtOne u4 (
 ldK E s5 (H.next σ) 1 fun u6 =>
 rtStr u6 fun x7 =>
 joinB (fun c8 s9 =>
 condK c8 (
 some ((V.tup [(V.int .i64 (Int.ofNat 0)), (V.int .i64 (Int.ofNat 8))]), s9)) (
 slenK u4 fun n11 =>
 condK (ltF (Int.ofNat 0) (Int.ofNat n11)) (
 iaddrSK 6 u4 (subF .i64 (Int.ofNat n11) (Int.ofNat 1)) fun b12 o13 =>
 ldnK E s9 b12 (Nat.add o13 2) 4 fun l14 =>
 rtCons l14 fun x15 l16 =>
 rtStr x15 fun x17 =>
 rtCons l16 fun x18 l19 =>
 rtCons l19 fun x20 l21 =>
 rtCons l21 fun x22 l23 =>
 rtNil l23 (
 ldnK E s9 (H.next σ) 2 4 fun l24 =>
 rtCons l24 fun x25 l26 =>
 rtStr x25 fun x27 =>
 rtCons l26 fun x28 l29 =>
 rtCons l29 fun x30 l31 =>
 rtCons l31 fun x32 l33 =>
 rtNil l33 (
 callK (D 19 [(V.agg [(V.str x17), x18, x20, x22]), (V.agg [(V.str x27), x28, x30, x32])] s9) fun u34 s35 =>
 rtTup u34 fun l36 =>
 rtCons l36 fun x37 l38 =>
 rtInt .i64 x37 fun x39 =>
 rtCons l38 fun x40 l41 =>
 rtInt .i64 x40 fun x42 =>
 rtNil l41 (
 condK (not (eqF x42 (Int.ofNat 0))) (
 some ((V.tup [(V.int .i64 x39), (V.int .i64 x42)]), s35)) (
 K1 v0b v0o (H.next σ) 0 u4 s35))))) (
 K1 v0b v0o (H.next σ) 0 u4 s9))) fun k10 =>
 condK (not (BS.beq x7 (BS.mk 0 0))) (
 callK (D 17 [u4, (V.fn 18 [] [(V.ptr (H.next σ) 0)])] s5) fun u43 s44 =>
 rtBool u43 fun x45 =>
 k10 x45 s44) (
 k10 false s5)))
def C10_1 : XC := (.seq (.block 0 (.seq (.ops (.p 47 [3] (.faddr 0 (.t 3)) <|
 .p 48 [47] (.faddr 1 (.t 47)) <|
 .op (some 49) .str [48] (.load none (.t 48)) <|
 .p 50 [49] (.bin .eql .none (.t 49) (.con (V.str ⟨0, 0⟩))) <|
 .m 51 50 <|
 .grp 51 false (.p 52 [3, 51] (.faddr 0 (.t 3)) <|
 .p 53 [52, 51] (.faddr 1 (.t 52)) <|
 .op (some 54) .str [53, 51] (.load none (.t 53)) <|
 .p 55 [54, 51] (.len true (.t 54)) <|
 .p 56 [55, 51] (.bin .gtr .none (.t 55) (.i 8000)) <|
 .nil) 57 [51, 56] (.t 51) (.con (V.bool true)) (.t 56) <|
 .m 46 57 <|
 .nil))
 (.cond (.tmp 46) (.seq (.ops (.p 4 [] (.mov (.i 0)) <|
 .p 5 [] (.mov (.i 5)) <|
 .nil))
 .ret)
 (.seq (.ops (.m 59 6 <|
 .p 60 [59] (.len false (.t 59)) <|
 .p 61 [60] (.bin .geq .none (.t 60) (.i 8)) <|
 .m 62 61 <|
 .grp 62 false (.p 63 [6, 62] (.mov (.t 6)) <|
 .p 64 [63, 62] (.len false (.t 63)) <|
 .p 65 [64, 62] (.bin .eql .none (.t 64) (.i 0)) <|
 .p 66 [65, 62] (.mov (.t 65)) <|
 .grp 66 true (.p 67 [0, 66] (.mov (.t 0)) <|
 .p 68 [67, 66] (.nilck (.t 67)) <|
 .p 69 [68, 66] (.faddr 0 (.t 68)) <|
 .p 70 [69, 66] (.faddr 0 (.t 69)) <|
 .p 71 [70, 66] (.load none (.t 70)) <|
 .p 72 [71, 66] (.len false (.t 71)) <|
 .p 73 [72, 66] (.bin .geq .none (.t 72) (.i 8)) <|
 .nil) 74 [66, 73, 62] (.t 66) (.t 73) (.con (V.bool false)) <|
 .nil) 75 [62, 74] (.t 62) (.con (V.bool true)) (.t 74) <|
 .m 58 75 <|
 .nil))
 (.cond (.tmp 58) (.seq (.ops (.p 4 [] (.mov (.i 0)) <|
 .p 5 [] (.mov (.i 15)) <|
 .nil))
 .ret)
 .skip)))))
 (.seq (.ops (.p 4 [] (.mov (.i 0)) <|
 .p 5 [] (.mov (.i 0)) <|
 .nil))
 .ret))
def T10_1 (E : List (Nat × Blk)) (D : Den) (W : DrawFn) (v0b : Nat) (v0o : Nat) (v3b : Nat) (v3o : Nat) (v6 : V) (σ : H) : Ans :=
 ldK E σ v3b (Nat.add v3o 1) fun u1 =>
 rtStr u1 fun x2 =>
 joinB (fun c3 s4 =>
 condK c3 (
 some ((V.tup [(V.int .i64 (Int.ofNat 0)), (V.int .i64 (Int.ofNat 5))]), s4)) (
 slenK v6 fun n6 =>
 joinB (fun c7 s8 =>
 condK c7 (
 some ((V.tup [(V.int .i64 (Int.ofNat 0)), (V.int .i64 (Int.ofNat 15))]), s8)) (
 some ((V.tup [(V.int .i64 (Int.ofNat 0)), (V.int .i64 (Int.ofNat 0))]), s8))) fun k9 =>
 condK (leF (Int.ofNat 8) (Int.ofNat n6)) (
 k9 true s4) (
 slenK v6 fun n10 =>
 joinB (fun c11 s12 =>
 k9 c11 s12) fun k13 =>
 condK (eqF (Int.ofNat n10) (Int.ofNat 0)) (
 ldK E s4 v0b v0o fun u14 =>
 slenK u14 fun n15 =>
 k13 (leF (Int.ofNat 8) (Int.ofNat n15)) s4) (
 k13 false s4)))) fun k5 =>
 condK (BS.beq x2 (BS.mk 0 0)) (
 k5 true σ) (
 ldK E σ v3b (Nat.add v3o 1) fun u16 =>
 rtStr u16 fun x17 =>
 k5 (ltF (Int.ofNat 8000) (Int.ofNat (BS.len x17))) σ)
theorem P10_0 (cc1 : XC) (v0b : Nat) (v0o : Nat) (v1_0 : Int) (v1_1 : BS) (v1_2 : BS) (v1_3 : V) (v1_4 : V) (v1_5 : V) (σ : H) :
  denC E D W N (C10_0 cc1) ⟨[(0, (V.ptr v0b v0o)), (1, (V.agg [(V.int .i64 v1_0), (V.str v1_1), (V.str v1_2), v1_3, v1_4, v1_5]))], [], [], σ⟩ (Fin10 E) (fun _ _ => none) (Fin10 E) =
  T10_0 E D W (fun v0b v0o v3b v3o v6 σ => denC E D W N cc1 ⟨[(0, (V.ptr v0b v0o)), (3, (V.ptr v3b v3o)), (6, v6)], [], [], σ⟩ (Fin10 E) (fun _ _ => none) (Fin10 E)) v0b v0o v1_0 v1_1 v1_2 v1_3 v1_4 v1_5 σ := by kernel_rfl
theorem P10_1 (v0b : Nat) (v0o : Nat) (v3b : Nat) (v3o : Nat) (v6 : V) (σ : H) :
  denC E D W N (C10_1 ) ⟨[(0, (V.ptr v0b v0o)), (3, (V.ptr v3b v3o)), (6, v6)], [], [], σ⟩ (Fin10 E) (fun _ _ => none) (Fin10 E) =
  T10_1 E D W  v0b v0o v3b v3o v6 σ := by kernel_rfl
def J10_1 (E : List (Nat × Blk)) (D : Den) (W : DrawFn) (N : Nat) : Nat → Nat → Nat → Nat → V → H → Ans := T10_1 E D W 
theorem JE10_1 (v0b : Nat) (v0o : Nat) (v3b : Nat) (v3o : Nat) (v6 : V) (σ : H) :
  denC E D W N C10_1 ⟨[(0, (V.ptr v0b v0o)), (3, (V.ptr v3b v3o)), (6, v6)], [], [], σ⟩ (Fin10 E) (fun _ _ => none) (Fin10 E) = J10_1 E D W N v0b v0o v3b v3o v6 σ := by
  refine (P10_1 E D W N   v0b v0o v3b v3o v6 σ).trans ?_
  kernel_rfl
def J10_0 : Nat → Nat → Int → BS → BS → V → V → V → H → Ans := T10_0 E D W (J10_1 E D W N )
theorem JE10_0 (v0b : Nat) (v0o : Nat) (v1_0 : Int) (v1_1 : BS) (v1_2 : BS) (v1_3 : V) (v1_4 : V) (v1_5 : V) (σ : H) :
  denC E D W N (C10_0 C10_1) ⟨[(0, (V.ptr v0b v0o)), (1, (V.agg [(V.int .i64 v1_0), (V.str v1_1), (V.str v1_2), v1_3, v1_4, v1_5]))], [], [], σ⟩ (Fin10 E) (fun _ _ => none) (Fin10 E) = J10_0 E D W N v0b v0o v1_0 v1_1 v1_2 v1_3 v1_4 v1_5 σ := by
  refine (P10_0 E D W N C10_1  v0b v0o v1_0 v1_1 v1_2 v1_3 v1_4 v1_5 σ).trans ?_
  simp only [JE10_1]
  kernel_rfl
def F10 (args : List V) (σ : H) : Ans :=
 rtCons args fun x1 l2 =>
 rtPtr x1 fun b3 o4 =>
 rtCons l2 fun x5 l6 =>
 rtAgg x5 fun l7 =>
 rtCons l7 fun x8 l9 =>
 rtInt .i64 x8 fun x10 =>
 rtCons l9 fun x11 l12 =>
 rtStr x11 fun x13 =>
 rtCons l12 fun x14 l15 =>
 rtStr x14 fun x16 =>
 rtCons l15 fun x17 l18 =>
 rtCons l18 fun x19 l20 =>
 rtCons l20 fun x21 l22 =>
 rtNil l22 (
 rtNil l6 (
 J10_0 E D W N b3 o4 x10 x13 x16 x17 x19 x21 σ))
def A10 : XFn := ⟨76, [.ptr, (.agg [.i, .str, .str, .any, .any, .any])], [(.tmp 4), (.tmp 5)], (C10_0 C10_1)⟩
theorem FE10 (args : List V) (σ : H) : runX E D W N A10 args σ = F10 E D W N args σ := by
  unfold F10
  simp only [← JE10_0]
  kernel_rfl
theorem AO10 : A10.body.ok = true := by kernel_rfl

def C11_0 : XC := (.seq (.ops (.p 4 [] (.mov (.con V.nils)) <|
 .nil))
 (.seq (.ops (.m 8 0 <|
 .m 9 1 <|
 .op (some 10) (.tup [.i, .bool]) [8, 9] (.call 20 [(.t 8), (.t 9)]) <|
 .m 7 10 <|
 .p 11 [7] (.extract 0 (.t 7)) <|
 .p 12 [7] (.extract 1 (.t 7)) <|
 .m 5 11 <|
 .m 6 12 <|
 .nil))
 (.seq (.seq (.ops (.m 13 6 <|
 .p 14 [13] (.un .not (.t 13)) <|
 .nil))
 (.cond (.tmp 14) (.seq (.ops (.p 4 [] (.mov (.con V.nils)) <|
 .nil))
 .ret)
 .skip))
 (.seq (.ops (.m 15 0 <|
 .p 16 [15] (.nilck (.t 15)) <|
 .p 17 [16] (.faddr 0 (.t 16)) <|
 .p 18 [17] (.load none (.t 17)) <|
 .m 19 5 <|
 .p 20 [18, 19] (.iaddrS 2 (.t 18) (.t 19)) <|
 .p 21 [20] (.faddr 1 (.t 20)) <|
 .p 22 [21] (.load none (.t 21)) <|
 .m 4 22 <|
 .nil))
 .ret))))
def A11 : XFn := ⟨23, [.ptr, .str], [(.tmp 4)], C11_0⟩
def G12_0 : List AOper := [⟨(some 36), .mov (.tmp 0), none⟩, ⟨(some 37), .nilck (.tmp 36), none⟩, ⟨(some 38), .faddr 0 (.tmp 37), none⟩, ⟨(some 39), .load none (.tmp 38), none⟩, ⟨(some 40), .mov (.tmp 6), none⟩, ⟨(some 41), .mov (.tmp 0), none⟩, ⟨(some 42), .nilck (.tmp 41), none⟩, ⟨(some 43), .faddr 0 (.tmp 42), none⟩, ⟨(some 44), .load none (.tmp 43), none⟩, ⟨(some 45), .mov (.tmp 6), none⟩, ⟨(some 46), .iaddrS 2 (.tmp 44) (.tmp 45), none⟩, ⟨(some 47), .faddr 1 (.tmp 46), none⟩, ⟨(some 48), .load none (.tmp 47), none⟩, ⟨(some 49), .call 23 [(.tmp 48)], none⟩, ⟨(some 50), .load (some 6) (.tmp 5), none⟩, ⟨(some 51), .buildSlice 46 1 [(V.int .i64 (Int.ofNat 0)), (V.str ⟨0, 0⟩), (V.str ⟨0, 0⟩), V.nils, V.nils, V.nils] [(0, 6, (.tmp 50))], none⟩, ⟨(some 52), .append 46 6 112 (.tmp 49) (.tmp 51), none⟩, ⟨(some 53), .iaddrS 2 (.tmp 39) (.tmp 40), none⟩, ⟨(some 54), .faddr 1 (.tmp 53), none⟩, ⟨none, .store 1 (.tmp 54) (.tmp 52), none⟩]
def H12_0 : List DP := [⟨0, [0]⟩, ⟨1, [36]⟩, ⟨3, [37]⟩, ⟨7, [38]⟩, ⟨0, [6]⟩, ⟨0, [0]⟩, ⟨32, [41]⟩, ⟨96, [42]⟩, ⟨224, [43]⟩, ⟨0, [6]⟩, ⟨992, [44, 45]⟩, ⟨2016, [46]⟩, ⟨4064, [47]⟩, ⟨8160, [48]⟩, ⟨0, [5]⟩, ⟨16384, [50]⟩, ⟨65504, [49, 51]⟩, ⟨131071, [39, 40]⟩, ⟨262143, [53]⟩, ⟨524287, [54, 52]⟩]
def C12_0 (cc1 : XC) : XC := (.seq (.ops (.p 5 [2] (.box 46 (.t 2)) <|
 .nil))
 (.seq (.ops (.m 9 0 <|
 .m 10 1 <|
 .op (some 11) (.tup [.i, .bool]) [9, 10] (.call 20 [(.t 9), (.t 10)]) <|
 .m 8 11 <|
 .p 12 [8] (.extract 0 (.t 8)) <|
 .p 13 [8] (.extract 1 (.t 8)) <|
 .m 6 12 <|
 .m 7 13 <|
 .nil))
 (.seq (.ops (.m 14 0 <|
 .m 15 0 <|
 .p 16 [15] (.nilck (.t 15)) <|
 .p 17 [16] (.faddr 0 (.t 16)) <|
 .p 18 [17] (.load none (.t 17)) <|
 .op (some 19) .one [18] (.call 21 [(.t 18)]) <|
 .p 20 [14] (.nilck (.t 14)) <|
 .p 21 [20] (.faddr 0 (.t 20)) <|
 .op none .any [21, 19] (.store 1 (.t 21) (.t 19)) <|
 .nil))
 (.seq (.seq (.ops (.m 22 7 <|
 .p 23 [22] (.un .not (.t 22)) <|
 .nil))
 (.cond (.tmp 23) (.ops (.m 24 0 <|
 .m 25 0 <|
 .p 26 [25] (.nilck (.t 25)) <|
 .p 27 [26] (.faddr 0 (.t 26)) <|
 .p 28 [27] (.load none (.t 27)) <|
 .m 29 6 <|
 .m 30 1 <|
 .op (some 31) (.agg [.str, .any]) [30] (.build [(V.str ⟨0, 0⟩), V.nils] [(0, 1, (.t 30))]) <|
 .p 32 [31] (.buildSlice 57 1 [(V.str ⟨0, 0⟩), V.nils] [(0, 2, (.t 31))]) <|
 .op (some 33) .one [28, 29, 32] (.call 22 [(.t 28), (.t 29), (.t 32)]) <|
 .p 34 [24] (.nilck (.t 24)) <|
 .p 35 [34] (.faddr 0 (.t 34)) <|
 .op none .any [35, 33] (.store 1 (.t 35) (.t 33)) <|
 .nil))
 .skip))
 (.keep [(0, .ptr), (5, .ptr), (6, .i)] [] [] cc1)))))
def C12_1 : XC := (.keep [(0, .ptr), (5, .ptr), (6, .i)] [] [] (.gdraw G12_0 H12_0 []))
def A12 : XFn := ⟨55, [.ptr, .str, (.agg [.i, .str, .str, .any, .any, .any])], [], (C12_0 C12_1)⟩
def C13_0 (cc1 : XC) : XC := (.seq (.ops (.pal 6 [] 46 [(V.int .i64 (Int.ofNat 0)), (V.str ⟨0, 0⟩), (V.str ⟨0, 0⟩), V.nils, V.nils, V.nils] <|
 .p 7 [] (.mov (.i 0)) <|
 .nil))
 (.seq (.seq (.ops (.m 9 0 <|
 .p 10 [9] (.bin .eql .ptr (.t 9) (.con V.nilp)) <|
 .nil))
 (.cond (.tmp 10) (.seq (.ops (.op (some 11) (.agg [.i, .str, .str, .any, .any, .any]) [] (.build [(V.int .i64 (Int.ofNat 0)), (V.str ⟨0, 0⟩), (V.str ⟨0, 0⟩), V.nils, V.nils, V.nils] []) <|
 .op none (.agg [.i, .str, .str, .any, .any, .any]) [6, 11] (.store 6 (.t 6) (.t 11)) <|
 .p 7 [] (.mov (.i 2)) <|
 .nil))
 .ret)
 .skip))
 (.seq (.ops (.m 12 0 <|
 .p 13 [12] (.nilck (.t 12)) <|
 .p 14 [13] (.faddr 0 (.t 13)) <|
 .m 15 1 <|
 .op (some 16) .one [14, 15] (.call 11 [(.t 14), (.t 15)]) <|
 .m 8 16 <|
 .nil))
 (.seq (.seq (.ops (.m 17 2 <|
 .p 18 [17] (.bin .eql .none (.t 17) (.i 0)) <|
 .nil))
 (.cond (.tmp 18) (.ops (.m 19 8 <|
 .p 20 [19] (.len false (.t 19)) <|
 .m 2 20 <|
 .nil))
 .skip))
 (.keep [(2, .i), (8, .any)] [6] [(6, [.i, .str, .str, .any, .any, .any])] cc1)))))
def C13_1 : XC := (.seq (.seq (.ops (.m 21 2 <|
 .p 22 [21] (.bin .lss .none (.t 21) (.i 1)) <|
 .m 23 22 <|
 .grp 23 false (.p 24 [2, 23] (.mov (.t 2)) <|
 .p 25 [8, 23] (.mov (.t 8)) <|
 .p 26 [25, 23] (.len false (.t 25)) <|
 .p 27 [24, 26, 23] (.bin .gtr .none (.t 24) (.t 26)) <|
 .nil) 28 [23, 27] (.t 23) (.con (V.bool true)) (.t 27) <|
 .nil))
 (.cond (.tmp 28) (.seq (.ops (.op (some 29) (.agg [.i, .str, .str, .any, .any, .any]) [] (.build [(V.int .i64 (Int.ofNat 0)), (V.str ⟨0, 0⟩), (V.str ⟨0, 0⟩), V.nils, V.nils, V.nils] []) <|
 .op none (.agg [.i, .str, .str, .any, .any, .any]) [6, 29] (.store 6 (.t 6) (.t 29)) <|
 .p 7 [] (.mov (.i 9)) <|
 .nil))
 .ret)
 .skip))
 (.seq (.ops (.m 30 8 <|
 .m 31 2 <|
 .p 32 [31] (.bin .sub .none (.t 31) (.i 1)) <|
 .p 33 [30, 32] (.iaddrS 6 (.t 30) (.t 32)) <|
 .op (some 34) (.agg [.i, .str, .str, .any, .any, .any]) [33] (.load (some 6) (.t 33)) <|
 .op none (.agg [.i, .str, .str, .any, .any, .any]) [6, 34] (.store 6 (.t 6) (.t 34)) <|
 .p 7 [] (.mov (.i 0)) <|
 .nil))
 .ret))
def A13 : XFn := ⟨35, [.any, .str, .i], [(.cell 6 (some 6)), (.tmp 7)], (C13_0 C13_1)⟩
/-! ### F14: ogham_syntax.Parse -/
def G14_0 : List AOper := [⟨(some 27), .build [(V.str ⟨0, 0⟩), (V.int .i64 (Int.ofNat 0)), V.nils, V.nils, V.nils] [], none⟩, ⟨(some 28), .mov (.tmp 8), none⟩, ⟨(some 29), .nilck (.tmp 28), none⟩, ⟨(some 30), .faddr 7 (.tmp 29), none⟩, ⟨(some 31), .load none (.tmp 30), none⟩, ⟨(some 32), .mov (.tmp 8), none⟩, ⟨(some 33), .nilck (.tmp 32), none⟩, ⟨(some 34), .faddr 8 (.tmp 33), none⟩, ⟨(some 35), .load none (.tmp 34), none⟩, ⟨none, .store 5 (.tmp 2) (.tmp 27), none⟩, ⟨(some 3), .mov (.tmp 31), none⟩, ⟨(some 4), .mov (.tmp 35), none⟩]
def H14_0 : List DP := [⟨0, []⟩, ⟨0, [8]⟩, ⟨2, [28]⟩, ⟨6, [29]⟩, ⟨14, [30]⟩, ⟨0, [8]⟩, ⟨32, [32]⟩, ⟨96, [33]⟩, ⟨224, [34]⟩, ⟨1, [2, 27]⟩, ⟨543, [31]⟩, ⟨2047, [35]⟩]
def Fin14 (E : List (Nat × Blk)) : St → Ans := fun s => resK E s [(.cell 2 (some 5)), (.tmp 3), (.tmp 4)] fun l => some (oneV l, s.σ)
def C14_0 : XC := (.seq (.ops (.p 2 [] (.alloc 60 [(V.str ⟨0, 0⟩), (V.int .i64 (Int.ofNat 0)), V.nils, V.nils, V.nils]) <|
 .p 3 [] (.mov (.i 0)) <|
 .p 4 [] (.mov (.i 0)) <|
 .nil))
 (.seq (.ops (.m 10 0 <|
 .op (some 11) (.tup [.any, .i, .i]) [10] (.call 24 [(.t 10)]) <|
 .m 9 11 <|
 .p 12 [9] (.extract 0 (.t 9)) <|
 .p 13 [9] (.extract 1 (.t 9)) <|
 .p 14 [9] (.extract 2 (.t 9)) <|
 .m 5 12 <|
 .m 6 13 <|
 .m 7 14 <|
 .nil))
 (.seq (.seq (.ops (.m 15 7 <|
 .p 16 [15] (.bin .neq .none (.t 15) (.i 0)) <|
 .nil))
 (.cond (.tmp 16) (.seq (.ops (.op (some 17) (.agg [.str, .i, .any, .any, .any]) [] (.build [(V.str ⟨0, 0⟩), (V.int .i64 (Int.ofNat 0)), V.nils, V.nils, V.nils] []) <|
 .m 18 6 <|
 .m 19 7 <|
 .op none (.agg [.str, .i, .any, .any, .any]) [2, 17] (.store 5 (.t 2) (.t 17)) <|
 .m 3 18 <|
 .m 4 19 <|
 .nil))
 .ret)
 .skip))
 (.seq (.ops (.m 20 5 <|
 .op (some 21) (.agg [.any, .i]) [20] (.build [V.nils, (V.int .i64 (Int.ofNat 0))] [(0, 1, (.t 20))]) <|
 .op (some 22) (.agg [.any, .i, .str, .i, .any, .any, .any, .i, .i]) [21] (.build [V.nils, (V.int .i64 (Int.ofNat 0)), (V.str ⟨0, 0⟩), (V.int .i64 (Int.ofNat 0)), V.nils, V.nils, V.nils, (V.int .i64 (Int.ofNat 0)), (V.int .i64 (Int.ofNat 0))] [(0, 2, (.t 21))]) <|
 .p 23 [22] (.box 82 (.t 22)) <|
 .m 8 23 <|
 .nil))
 (.seq (.seq (.ops (.m 24 8 <|
 .op (some 25) .bool [24] (.call 25 [(.t 24)]) <|
 .p 26 [25] (.un .not (.t 25)) <|
 .nil))
 (.cond (.tmp 26) (.seq (.keep [(2, .ptr), (8, .ptr)] [] [] (.gdraw G14_0 H14_0 [(2, .ptr), (3, .i), (4, .i)]))
 .ret)
 .skip))
 (.seq (.ops (.m 36 8 <|
 .p 37 [36] (.nilck (.t 36)) <|
 .p 38 [37] (.faddr 2 (.t 37)) <|
 .op (some 39) (.agg [.str, .i, .any, .any, .any]) [38] (.load (some 5) (.t 38)) <|
 .op none (.agg [.str, .i, .any, .any, .any]) [2, 39] (.store 5 (.t 2) (.t 39)) <|
 .p 3 [] (.mov (.i 0)) <|
 .p 4 [] (.mov (.i 0)) <|
 .nil))
 .ret))))))
def T14_0 (v0 : BS) (σ : H) : Ans :=
 let s1 := newB σ (.cells [(V.str ⟨0, 0⟩), (V.int .i64 (Int.ofNat 0)), V.nils, V.nils, V.nils]);
 callK (D 24 [(V.str v0)] s1) fun u2 s3 =>
 rtTup u2 fun l4 =>
 rtCons l4 fun x5 l6 =>
 rtCons l6 fun x7 l8 =>
 rtInt .i64 x7 fun x9 =>
 rtCons l8 fun x10 l11 =>
 rtInt .i64 x10 fun x12 =>
 rtNil l11 (
 condK (not (eqF x12 (Int.ofNat 0))) (
 stK 5 (H.next σ) 0 (V.agg [(V.str (BS.mk 0 0)), (V.int .i64 (Int.ofNat 0)), V.nils, V.nils, V.nils]) s3 fun s13 =>
 ldnK E s13 (H.next σ) 0 5 fun u14 =>
 some ((V.tup [(V.agg u14), (V.int .i64 x9), (V.int .i64 x12)]), s13)) (
 fillK [(0, 1, x5)] [V.nils, (V.int .i64 (Int.ofNat 0))] fun l15 =>
 rtCons l15 fun x16 l17 =>
 rtCons l17 fun x18 l19 =>
 rtInt .i64 x18 fun x20 =>
 rtNil l19 (
 chk (allOne (V.cells (V.agg [x16, (V.int .i64 x20), (V.str (BS.mk 0 0)), (V.int .i64 (Int.ofNat 0)), V.nils, V.nils, V.nils, (V.int .i64 (Int.ofNat 0)), (V.int .i64 (Int.ofNat 0))]))) (
 let s21 := newB s3 (.cells (V.cells (V.agg [x16, (V.int .i64 x20), (V.str (BS.mk 0 0)), (V.int .i64 (Int.ofNat 0)), V.nils, V.nils, V.nils, (V.int .i64 (Int.ofNat 0)), (V.int .i64 (Int.ofNat 0))])));
 callK (D 25 [(V.ptr (H.next s3) 0)] s21) fun u22 s23 =>
 rtBool u22 fun x24 =>
 condK (not x24) (
 gdrawK (W G14_0 H14_0 [(2, (V.ptr (H.next σ) 0)), (8, (V.ptr (H.next s3) 0))] s23) fun e25 s26 =>
 getL e25 2 fun u27 =>
 rtPtr u27 fun b28 o29 =>
 getL e25 3 fun u30 =>
 rtInt .i64 u30 fun x31 =>
 getL e25 4 fun u32 =>
 rtInt .i64 u32 fun x33 =>
 ldnK E s26 b28 o29 5 fun u34 =>
 some ((V.tup [(V.agg u34), (V.int .i64 x31), (V.int .i64 x33)]), s26)) (
 ldnK E s23 (H.next s3) 2 5 fun l35 =>
 rtCons l35 fun x36 l37 =>
 rtStr x36 fun x38 =>
 rtCons l37 fun x39 l40 =>
 rtInt .i64 x39 fun x41 =>
 rtCons l40 fun x42 l43 =>
 rtCons l43 fun x44 l45 =>
 rtCons l45 fun x46 l47 =>
 rtNil l47 (
 stK 5 (H.next σ) 0 (V.agg [(V.str x38), (V.int .i64 x41), x42, x44, x46]) s23 fun s48 =>
 ldnK E s48 (H.next σ) 0 5 fun u49 =>
 some ((V.tup [(V.agg u49), (V.int .i64 (Int.ofNat 0)), (V.int .i64 (Int.ofNat 0))]), s48)))))))
theorem P14_0 (v0 : BS) (σ : H) :
  denC E D W N (C14_0 ) ⟨[(0, (V.str v0))], [], [], σ⟩ (Fin14 E) (fun _ _ => none) (Fin14 E) =
  T14_0 E D W  v0 σ := by kernel_rfl
def J14_0 (E : List (Nat × Blk)) (D : Den) (W : DrawFn) (N : Nat) : BS → H → Ans := T14_0 E D W 
theorem JE14_0 (v0 : BS) (σ : H) :
  denC E D W N C14_0 ⟨[(0, (V.str v0))], [], [], σ⟩ (Fin14 E) (fun _ _ => none) (Fin14 E) = J14_0 E D W N v0 σ := by
  refine (P14_0 E D W N   v0 σ).trans ?_
  kernel_rfl
def F14 (args : List V) (σ : H) : Ans :=
 rtCons args fun x1 l2 =>
 rtStr x1 fun x3 =>
 rtNil l2 (
 J14_0 E D W N x3 σ)
def A14 : XFn := ⟨40, [.str], [(.cell 2 (some 5)), (.tmp 3), (.tmp 4)], C14_0⟩
theorem FE14 (args : List V) (σ : H) : runX E D W N A14 args σ = F14 E D W N args σ := by
  unfold F14
  simp only [← JE14_0]
  kernel_rfl
theorem AO14 : A14.body.ok = true := by kernel_rfl

/-! ### F15: ogham_table.Make -/
def G15_0 : List AOper := [⟨(some 31), .build [(V.str ⟨0, 0⟩), V.nils, V.nils, V.nils] [], none⟩, ⟨(some 32), .faddr 3 (.tmp 1), none⟩, ⟨(some 33), .load none (.tmp 32), none⟩, ⟨(some 34), .len false (.tmp 33), none⟩, ⟨none, .store 4 (.tmp 2) (.tmp 31), none⟩, ⟨(some 3), .mov (.tmp 34), none⟩, ⟨(some 4), .mov (.con (V.int .i64 (Int.ofNat 9))), none⟩]
def H15_0 : List DP := [⟨0, []⟩, ⟨0, [1]⟩, ⟨2, [32]⟩, ⟨6, [33]⟩, ⟨1, [2, 31]⟩, ⟨31, [34]⟩, ⟨63, []⟩]
def G15_1 : List AOper := [⟨(some 38), .faddr 0 (.tmp 1), none⟩, ⟨(some 39), .load none (.tmp 38), none⟩, ⟨(some 40), .faddr 2 (.tmp 1), none⟩, ⟨(some 41), .load none (.tmp 40), none⟩, ⟨(some 42), .call 27 [(.tmp 41)], none⟩, ⟨(some 43), .build [(V.str ⟨0, 0⟩), V.nils, V.nils, V.nils] [(0, 1, (.tmp 39)), (1, 1, (.tmp 42))], none⟩, ⟨(some 9), .alloc 44 [(V.str ⟨0, 0⟩), V.nils, V.nils, V.nils], none⟩, ⟨none, .store 4 (.tmp 9) (.tmp 43), none⟩]
def H15_1 : List DP := [⟨0, [1]⟩, ⟨1, [38]⟩, ⟨0, [1]⟩, ⟨4, [40]⟩, ⟨12, [41]⟩, ⟨31, [39, 42]⟩, ⟨0, []⟩, ⟨127, [9, 43]⟩]
def Fin15 (E : List (Nat × Blk)) : St → Ans := fun s => resK E s [(.cell 2 (some 4)), (.tmp 3), (.tmp 4)] fun l => some (oneV l, s.σ)
def C15_0 (cc1 : XC) (cc2 : XC) : XC := (.seq (.ops (.p 1 [0] (.box 60 (.t 0)) <|
 .p 2 [] (.alloc 44 [(V.str ⟨0, 0⟩), V.nils, V.nils, V.nils]) <|
 .p 3 [] (.mov (.i 0)) <|
 .p 4 [] (.mov (.i 0)) <|
 .nil))
 (.seq (.seq (.ops (.op (some 14) (.agg [.str, .i, .any, .any, .any]) [1] (.load (some 5) (.t 1)) <|
 .op (some 15) (.tup [.any, .i, .i]) [14] (.call 26 [(.t 14)]) <|
 .m 13 15 <|
 .p 16 [13] (.extract 0 (.t 13)) <|
 .p 17 [13] (.extract 1 (.t 13)) <|
 .p 18 [13] (.extract 2 (.t 13)) <|
 .m 5 16 <|
 .m 6 17 <|
 .m 7 18 <|
 .nil))
 (.seq (.ops (.m 19 7 <|
 .p 20 [19] (.bin .neq .none (.t 19) (.i 0)) <|
 .nil))
 (.cond (.tmp 20) (.seq (.ops (.op (some 21) (.agg [.str, .any, .any, .any]) [] (.build [(V.str ⟨0, 0⟩), V.nils, V.nils, V.nils] []) <|
 .m 22 6 <|
 .m 23 7 <|
 .op none (.agg [.str, .any, .any, .any]) [2, 21] (.store 4 (.t 2) (.t 21)) <|
 .m 3 22 <|
 .m 4 23 <|
 .nil))
 .ret)
 .skip)))
 (.seq (.seq (.ops (.p 24 [1] (.faddr 3 (.t 1)) <|
 .p 25 [24] (.load none (.t 24)) <|
 .p 26 [25] (.len false (.t 25)) <|
 .p 27 [1] (.faddr 2 (.t 1)) <|
 .p 28 [27] (.load none (.t 27)) <|
 .p 29 [28] (.len false (.t 28)) <|
 .p 30 [26, 29] (.bin .lss .none (.t 26) (.t 29)) <|
 .nil))
 (.cond (.tmp 30) (.seq (.keep [(1, .ptr), (2, .ptr)] [] [] (.gdraw G15_0 H15_0 [(2, .ptr), (3, .i), (4, .i)]))
 .ret)
 .skip))
 (.seq (.ops (.op (some 35) (.agg [.str, .i, .any, .any, .any]) [1] (.load (some 5) (.t 1)) <|
 .op (some 36) (.agg [.any, .str, .i, .any, .any, .any]) [35] (.build [V.nils, (V.str ⟨0, 0⟩), (V.int .i64 (Int.ofNat 0)), V.nils, V.nils, V.nils] [(1, 5, (.t 35))]) <|
 .p 37 [36] (.box 89 (.t 36)) <|
 .m 8 37 <|
 .nil))
 (.seq (.keep [(1, .ptr), (2, .ptr), (8, .ptr)] [] [] (.gdraw G15_1 H15_1 [(1, .ptr), (2, .ptr), (8, .ptr), (9, .ptr)]))
 (.seq (.seq (.ops (.p 44 [1] (.faddr 2 (.t 1)) <|
 .p 45 [44] (.load none (.t 44)) <|
 .p 46 [45] (.len false (.t 45)) <|
 .p 47 [] (.mov (.i 0)) <|
 .nil))
 (.block 0 (.loop [(1, .ptr), (2, .ptr), (8, .ptr), (9, .ptr), (46, .i), (47, .i)] [] [] cc2)))
 (.keep [(2, .ptr), (8, .ptr), (9, .ptr)] [] [] cc1)))))))
def T15_0 (K2 : Nat → Nat → Nat → Nat → Nat → Nat → Nat → Nat → Int → Int → H → Ans) (v0_0 : BS) (v0_1 : Int) (v0_2 : V) (v0_3 : V) (v0_4 : V) (σ : H) : Ans :=
 chk (allOne (V.cells (V.agg [(V.str v0_0), (V.int .i64 v0_1), v0_2, v0_3, v0_4]))) (
 let s1 := newB σ (.cells (V.cells (V.agg [(V.str v0_0), (V.int .i64 v0_1), v0_2, v0_3, v0_4])));
 let s2 := newB s1 (.cells [(V.str ⟨0, 0⟩), V.nils, V.nils, V.nils]);
 ldnK E s2 (H.next σ) 0 5 fun l3 =>
 rtCons l3 fun x4 l5 =>
 rtStr x4 fun x6 =>
 rtCons l5 fun x7 l8 =>
 rtInt .i64 x7 fun x9 =>
 rtCons l8 fun x10 l11 =>
 rtCons l11 fun x12 l13 =>
 rtCons l13 fun x14 l15 =>
 rtNil l15 (
 callK (D 26 [(V.agg [(V.str x6), (V.int .i64 x9), x10, x12, x14])] s2) fun u16 s17 =>
 rtTup u16 fun l18 =>
 rtCons l18 fun x19 l20 =>
 rtCons l20 fun x21 l22 =>
 rtInt .i64 x21 fun x23 =>
 rtCons l22 fun x24 l25 =>
 rtInt .i64 x24 fun x26 =>
 rtNil l25 (
 condK (not (eqF x26 (Int.ofNat 0))) (
 stK 4 (H.next s1) 0 (V.agg [(V.str (BS.mk 0 0)), V.nils, V.nils, V.nils]) s17 fun s27 =>
 ldnK E s27 (H.next s1) 0 4 fun u28 =>
 some ((V.tup [(V.agg u28), (V.int .i64 x23), (V.int .i64 x26)]), s27)) (
 ldK E s17 (H.next σ) 3 fun u29 =>
 slenK u29 fun n30 =>
 ldK E s17 (H.next σ) 2 fun u31 =>
 slenK u31 fun n32 =>
 condK (ltF (Int.ofNat n30) (Int.ofNat n32)) (
 gdrawK (W G15_0 H15_0 [(1, (V.ptr (H.next σ) 0)), (2, (V.ptr (H.next s1) 0))] s17) fun e33 s34 =>
 getL e33 2 fun u35 =>
 rtPtr u35 fun b36 o37 =>
 getL e33 3 fun u38 =>
 rtInt .i64 u38 fun x39 =>
 getL e33 4 fun u40 =>
 rtInt .i64 u40 fun x41 =>
 ldnK E s34 b36 o37 4 fun u42 =>
 some ((V.tup [(V.agg u42), (V.int .i64 x39), (V.int .i64 x41)]), s34)) (
 ldnK E s17 (H.next σ) 0 5 fun l43 =>
 rtCons l43 fun x44 l45 =>
 rtStr x44 fun x46 =>
 rtCons l45 fun x47 l48 =>
 rtInt .i64 x47 fun x49 =>
 rtCons l48 fun x50 l51 =>
 rtCons l51 fun x52 l53 =>
 rtCons l53 fun x54 l55 =>
 rtNil l55 (
 chk (allOne (V.cells (V.agg [V.nils, (V.str x46), (V.int .i64 x49), x50, x52, x54]))) (
 let s56 := newB s17 (.cells (V.cells (V.agg [V.nils, (V.str x46), (V.int .i64 x49), x50, x52, x54])));
 gdrawK (W G15_1 H15_1 [(1, (V.ptr (H.next σ) 0)), (2, (V.ptr (H.next s1) 0)), (8, (V.ptr (H.next s17) 0))] s56) fun e57 s58 =>
 getL e57 1 fun u59 =>
 rtPtr u59 fun b60 o61 =>
 getL e57 2 fun u62 =>
 rtPtr u62 fun b63 o64 =>
 getL e57 8 fun u65 =>
 rtPtr u65 fun b66 o67 =>
 getL e57 9 fun u68 =>
 rtPtr u68 fun b69 o70 =>
 ldK E s58 b60 (Nat.add o61 2) fun u71 =>
 slenK u71 fun n72 =>
 K2 b60 o61 b63 o64 b66 o67 b69 o70 (Int.ofNat n72) (Int.ofNat 0) s58)))))))
def C15_1 : XC := (.seq (.ops (.m 72 8 <|
 .p 73 [72] (.nilck (.t 72)) <|
 .p 74 [73] (.faddr 0 (.t 73)) <|
 .p 75 [74] (.faddr 0 (.t 74)) <|
 .p 76 [75] (.load none (.t 75)) <|
 .p 77 [9] (.faddr 3 (.t 9)) <|
 .op none .any [77, 76] (.store 1 (.t 77) (.t 76)) <|
 .nil))
 (.seq (.ops (.op (some 78) (.agg [.str, .any, .any, .any]) [9] (.load (some 4) (.t 9)) <|
 .op none (.agg [.str, .any, .any, .any]) [2, 78] (.store 4 (.t 2) (.t 78)) <|
 .p 3 [] (.mov (.i 0)) <|
 .p 4 [] (.mov (.i 0)) <|
 .nil))
 .ret))
def T15_1 (E : List (Nat × Blk)) (D : Den) (W : DrawFn) (v2b : Nat) (v2o : Nat) (v8b : Nat) (v8o : Nat) (v9b : Nat) (v9o : Nat) (σ : H) : Ans :=
 ldK E σ v8b v8o fun u1 =>
 stK 1 v9b (Nat.add v9o 3) u1 σ fun s2 =>
 ldnK E s2 v9b v9o 4 fun l3 =>
 rtCons l3 fun x4 l5 =>
 rtStr x4 fun x6 =>
 rtCons l5 fun x7 l8 =>
 rtCons l8 fun x9 l10 =>
 rtCons l10 fun x11 l12 =>
 rtNil l12 (
 stK 4 v2b v2o (V.agg [(V.str x6), x7, x9, x11]) s2 fun s13 =>
 ldnK E s13 v2b v2o 4 fun u14 =>
 some ((V.tup [(V.agg u14), (V.int .i64 (Int.ofNat 0)), (V.int .i64 (Int.ofNat 0))]), s13))
def C15_2 : XC := (.seq (.ops (.p 48 [47, 46] (.bin .lss .none (.t 47) (.t 46)) <|
 .nil))
 (.seq (.cond (.tmp 48) .skip
 (.exit 0))
 (.seq (.block 1 (.seq (.ops (.m 49 47 <|
 .m 10 49 <|
 .nil))
 (.seq (.ops (.m 51 8 <|
 .p 52 [1] (.faddr 3 (.t 1)) <|
 .p 53 [52] (.load none (.t 52)) <|
 .m 54 10 <|
 .p 55 [53, 54] (.iaddrS 1 (.t 53) (.t 54)) <|
 .op (some 56) .i [55] (.load none (.t 55)) <|
 .op (some 57) (.tup [.i, .i]) [51, 56] (.call 28 [(.t 51), (.t 56), (.i 0)]) <|
 .m 50 57 <|
 .p 58 [50] (.extract 0 (.t 50)) <|
 .p 59 [50] (.extract 1 (.t 50)) <|
 .m 11 58 <|
 .m 12 59 <|
 .nil))
 (.seq (.seq (.ops (.m 60 12 <|
 .p 61 [60] (.bin .neq .none (.t 60) (.i 0)) <|
 .nil))
 (.cond (.tmp 61) (.seq (.ops (.op (some 62) (.agg [.str, .any, .any, .any]) [] (.build [(V.str ⟨0, 0⟩), V.nils, V.nils, V.nils] []) <|
 .m 63 10 <|
 .m 64 12 <|
 .op none (.agg [.str, .any, .any, .any]) [2, 62] (.store 4 (.t 2) (.t 62)) <|
 .m 3 63 <|
 .m 4 64 <|
 .nil))
 .ret)
 .skip))
 (.ops (.p 65 [9] (.faddr 2 (.t 9)) <|
 .p 66 [65] (.load none (.t 65)) <|
 .m 67 11 <|
 .p 68 [67] (.buildSlice 3 1 [(V.int .i64 (Int.ofNat 0))] [(0, 1, (.t 67))]) <|
 .op (some 69) .one [66, 68] (.append 3 1 8 (.t 66) (.t 68)) <|
 .p 70 [9] (.faddr 2 (.t 9)) <|
 .op none .any [70, 69] (.store 1 (.t 70) (.t 69)) <|
 .nil))))))
 (.ops (.p 71 [47] (.bin .add .none (.t 47) (.i 1)) <|
 .m 47 71 <|
 .nil)))))
def T15_2 (E : List (Nat × Blk)) (D : Den) (W : DrawFn) (K1 : Nat → Nat → Nat → Nat → Nat → Nat → H → Ans) (R2 : Nat → Nat → Nat → Nat → Nat → Nat → Nat → Nat → Int → Int → H → Ans) (v1b : Nat) (v1o : Nat) (v2b : Nat) (v2o : Nat) (v8b : Nat) (v8o : Nat) (v9b : Nat) (v9o : Nat) (v46 : Int) (v47 : Int) (σ : H) : Ans :=
 condK (ltF v47 v46) (
 ldK E σ v1b (Nat.add v1o 3) fun u1 =>
 iaddrSK 1 u1 v47 fun b2 o3 =>
 ldK E σ b2 o3 fun u4 =>
 rtInt .i64 u4 fun x5 =>
 callK (D 28 [(V.ptr v8b v8o), (V.int .i64 x5), (V.int .i64 (Int.ofNat 0))] σ) fun u6 s7 =>
 rtTup u6 fun l8 =>
 rtCons l8 fun x9 l10 =>
 rtInt .i64 x9 fun x11 =>
 rtCons l10 fun x12 l13 =>
 rtInt .i64 x12 fun x14 =>
 rtNil l13 (
 condK (not (eqF x14 (Int.ofNat 0))) (
 stK 4 v2b v2o (V.agg [(V.str (BS.mk 0 0)), V.nils, V.nils, V.nils]) s7 fun s15 =>
 ldnK E s15 v2b v2o 4 fun u16 =>
 some ((V.tup [(V.agg u16), (V.int .i64 v47), (V.int .i64 x14)]), s15)) (
 ldK E s7 v9b (Nat.add v9o 2) fun u17 =>
 let s18 := newB s7 (.cells [(V.int .i64 x11)]);
 appK E 1 8 u17 (V.sl (H.next s7) 0 1 (.ex 1)) s18 fun u19 s20 =>
 rtOne u19 (
 stK 1 v9b (Nat.add v9o 2) u19 s20 fun s21 =>
 R2 v1b v1o v2b v2o v8b v8o v9b v9o v46 (addF .i64 v47 (Int.ofNat 1)) s21)))) (
 K1 v2b v2o v8b v8o v9b v9o σ)
theorem P15_0 (cc1 : XC) (cc2 : XC) (v0_0 : BS) (v0_1 : Int) (v0_2 : V) (v0_3 : V) (v0_4 : V) (σ : H) :
  denC E D W N (C15_0 cc1 cc2) ⟨[(0, (V.agg [(V.str v0_0), (V.int .i64 v0_1), v0_2, v0_3, v0_4]))], [], [], σ⟩ (Fin15 E) (fun _ _ => none) (Fin15 E) =
  T15_0 E D W (fun v1b v1o v2b v2o v8b v8o v9b v9o v46 v47 σ => iterK (fun rec s' => denC E D W N cc2 s' (fun s'' => keepS [(1, .ptr), (2, .ptr), (8, .ptr), (9, .ptr), (46, .i), (47, .i)] [] [] s'' rec) (blkK 0 (fun s' => denC E D W N (.keep [(2, .ptr), (8, .ptr), (9, .ptr)] [] [] cc1) s' (Fin15 E) (fun _ _ => none) (Fin15 E)) (fun _ _ => none)) (Fin15 E)) N ⟨[(1, (V.ptr v1b v1o)), (2, (V.ptr v2b v2o)), (8, (V.ptr v8b v8o)), (9, (V.ptr v9b v9o)), (46, (V.int .i64 v46)), (47, (V.int .i64 v47))], [], [], σ⟩) v0_0 v0_1 v0_2 v0_3 v0_4 σ := by kernel_rfl
theorem P15_1 (v2b : Nat) (v2o : Nat) (v8b : Nat) (v8o : Nat) (v9b : Nat) (v9o : Nat) (σ : H) :
  denC E D W N (C15_1 ) ⟨[(2, (V.ptr v2b v2o)), (8, (V.ptr v8b v8o)), (9, (V.ptr v9b v9o))], [], [], σ⟩ (Fin15 E) (fun _ _ => none) (Fin15 E) =
  T15_1 E D W  v2b v2o v8b v8o v9b v9o σ := by kernel_rfl
theorem P15_2 (cc1 : XC) (li2 : St → Ans) (v1b : Nat) (v1o : Nat) (v2b : Nat) (v2o : Nat) (v8b : Nat) (v8o : Nat) (v9b : Nat) (v9o : Nat) (v46 : Int) (v47 : Int) (σ : H) :
  denC E D W N (C15_2 ) ⟨[(1, (V.ptr v1b v1o)), (2, (V.ptr v2b v2o)), (8, (V.ptr v8b v8o)), (9, (V.ptr v9b v9o)), (46, (V.int .i64 v46)), (47, (V.int .i64 v47))], [], [], σ⟩ (fun s'' => keepS [(1, .ptr), (2, .ptr), (8, .ptr), (9, .ptr), (46, .i), (47, .i)] [] [] s'' li2) (blkK 0 (fun s' => denC E D W N (.keep [(2, .ptr), (8, .ptr), (9, .ptr)] [] [] cc1) s' (Fin15 E) (fun _ _ => none) (Fin15 E)) (fun _ _ => none)) (Fin15 E) =
  T15_2 E D W (fun v2b v2o v8b v8o v9b v9o σ => denC E D W N cc1 ⟨[(2, (V.ptr v2b v2o)), (8, (V.ptr v8b v8o)), (9, (V.ptr v9b v9o))], [], [], σ⟩ (Fin15 E) (fun _ _ => none) (Fin15 E)) (fun v1b v1o v2b v2o v8b v8o v9b v9o v46 v47 σ => li2 ⟨[(1, (V.ptr v1b v1o)), (2, (V.ptr v2b v2o)), (8, (V.ptr v8b v8o)), (9, (V.ptr v9b v9o)), (46, (V.int .i64 v46)), (47, (V.int .i64 v47))], [], [], σ⟩) v1b v1o v2b v2o v8b v8o v9b v9o v46 v47 σ := by kernel_rfl
def J15_1 (E : List (Nat × Blk)) (D : Den) (W : DrawFn) (N : Nat) : Nat → Nat → Nat → Nat → Nat → Nat → H → Ans := T15_1 E D W 
theorem JE15_1 (v2b : Nat) (v2o : Nat) (v8b : Nat) (v8o : Nat) (v9b : Nat) (v9o : Nat) (σ : H) :
  denC E D W N C15_1 ⟨[(2, (V.ptr v2b v2o)), (8, (V.ptr v8b v8o)), (9, (V.ptr v9b v9o))], [], [], σ⟩ (Fin15 E) (fun _ _ => none) (Fin15 E) = J15_1 E D W N v2b v2o v8b v8o v9b v9o σ := by
  refine (P15_1 E D W N   v2b v2o v8b v8o v9b v9o σ).trans ?_
  kernel_rfl
def L15_2 (n : Nat) : Nat → Nat → Nat → Nat → Nat → Nat → Nat → Nat → Int → Int → H → Ans :=
  Nat.rec (fun _ _ _ _ _ _ _ _ _ _ _ => none) (fun _ ih => T15_2 E D W (J15_1 E D W N ) ih) n
theorem LE15_2 (n : Nat) : ∀ (v1b : Nat) (v1o : Nat) (v2b : Nat) (v2o : Nat) (v8b : Nat) (v8o : Nat) (v9b : Nat) (v9o : Nat) (v46 : Int) (v47 : Int) (σ : H),
  iterK (fun rec s' => denC E D W N C15_2 s' (fun s'' => keepS [(1, .ptr), (2, .ptr), (8, .ptr), (9, .ptr), (46, .i), (47, .i)] [] [] s'' rec) (blkK 0 (fun s' => denC E D W N (.keep [(2, .ptr), (8, .ptr), (9, .ptr)] [] [] C15_1) s' (Fin15 E) (fun _ _ => none) (Fin15 E)) (fun _ _ => none)) (Fin15 E)) n ⟨[(1, (V.ptr v1b v1o)), (2, (V.ptr v2b v2o)), (8, (V.ptr v8b v8o)), (9, (V.ptr v9b v9o)), (46, (V.int .i64 v46)), (47, (V.int .i64 v47))], [], [], σ⟩ = L15_2 E D W N n v1b v1o v2b v2o v8b v8o v9b v9o v46 v47 σ := by
  induction n with
  | zero => intro v1b v1o v2b v2o v8b v8o v9b v9o v46 v47 σ; rfl
  | succ n ihn =>
    intro v1b v1o v2b v2o v8b v8o v9b v9o v46 v47 σ
    rw [iterK_succ]
    refine (P15_2 E D W N C15_1 (iterK (fun rec s' => denC E D W N C15_2 s' (fun s'' => keepS [(1, .ptr), (2, .ptr), (8, .ptr), (9, .ptr), (46, .i), (47, .i)] [] [] s'' rec) (blkK 0 (fun s' => denC E D W N (.keep [(2, .ptr), (8, .ptr), (9, .ptr)] [] [] C15_1) s' (Fin15 E) (fun _ _ => none) (Fin15 E)) (fun _ _ => none)) (Fin15 E)) n) v1b v1o v2b v2o v8b v8o v9b v9o v46 v47 σ).trans ?_
    simp only [ihn, JE15_1]
    kernel_rfl
def J15_0 : BS → Int → V → V → V → H → Ans := T15_0 E D W (L15_2 E D W N N)
theorem JE15_0 (v0_0 : BS) (v0_1 : Int) (v0_2 : V) (v0_3 : V) (v0_4 : V) (σ : H) :
  denC E D W N (C15_0 C15_1 C15_2) ⟨[(0, (V.agg [(V.str v0_0), (V.int .i64 v0_1), v0_2, v0_3, v0_4]))], [], [], σ⟩ (Fin15 E) (fun _ _ => none) (Fin15 E) = J15_0 E D W N v0_0 v0_1 v0_2 v0_3 v0_4 σ := by
  refine (P15_0 E D W N C15_1 C15_2  v0_0 v0_1 v0_2 v0_3 v0_4 σ).trans ?_
  simp only [LE15_2]
  kernel_rfl
def F15 (args : List V) (σ : H) : Ans :=
 rtCons args fun x1 l2 =>
 rtAgg x1 fun l3 =>
 rtCons l3 fun x4 l5 =>
 rtStr x4 fun x6 =>
 rtCons l5 fun x7 l8 =>
 rtInt .i64 x7 fun x9 =>
 rtCons l8 fun x10 l11 =>
 rtCons l11 fun x12 l13 =>
 rtCons l13 fun x14 l15 =>
 rtNil l15 (
 rtNil l2 (
 J15_0 E D W N x6 x9 x10 x12 x14 σ))
def A15 : XFn := ⟨79, [(.agg [.str, .i, .any, .any, .any])], [(.cell 2 (some 4)), (.tmp 3), (.tmp 4)], (C15_0 C15_1 C15_2)⟩
theorem FE15 (args : List V) (σ : H) : runX E D W N A15 args σ = F15 E D W N args σ := by
  unfold F15
  simp only [← JE15_0]
  kernel_rfl
theorem AO15 : A15.body.ok = true := by kernel_rfl

/-! ### F16: ogham_print.Print -/
def G16_0 : List AOper := [⟨(some 28), .mov (.tmp 3), none⟩, ⟨(some 29), .nilck (.tmp 28), none⟩, ⟨(some 30), .faddr 0 (.tmp 29), none⟩, ⟨(some 31), .faddr 0 (.tmp 1), none⟩, ⟨(some 32), .load none (.tmp 31), none⟩, ⟨(some 33), .mov (.tmp 4), none⟩, ⟨(some 34), .buildSlice 9 4 [(V.str ⟨0, 0⟩), (V.str ⟨0, 0⟩), (V.str ⟨0, 0⟩), (V.str ⟨0, 0⟩)] [(0, 1, (.tmp 32)), (1, 1, (.con (V.str ⟨13, 2561083126905198320505063818272⟩))), (2, 1, (.tmp 33)), (3, 1, (.con (V.str ⟨9, 1444126302987771263546⟩)))], none⟩, ⟨(some 35), .call 30 [(.tmp 30), (.tmp 34)], none⟩]
def H16_0 : List DP := [⟨0, [3]⟩, ⟨1, [28]⟩, ⟨3, [29]⟩, ⟨0, [1]⟩, ⟨8, [31]⟩, ⟨0, [4]⟩, ⟨56, [32, 33]⟩, ⟨127, [30, 34]⟩]
def Fin16 (E : List (Nat × Blk)) : St → Ans := fun s => resK E s [(.tmp 2)] fun l => some (oneV l, s.σ)
def C16_0 (cc1 : XC) (cc2 : XC) : XC := (.seq (.ops (.p 1 [0] (.box 60 (.t 0)) <|
 .p 2 [] (.mov (.con (V.str ⟨0, 0⟩))) <|
 .nil))
 (.seq (.ops (.op (some 7) (.agg [.str, .i, .any, .any, .any]) [1] (.load (some 5) (.t 1)) <|
 .op (some 8) (.agg [.any, .bool, .str, .i, .any, .any, .any]) [7] (.build [V.nils, (V.bool false), (V.str ⟨0, 0⟩), (V.int .i64 (Int.ofNat 0)), V.nils, V.nils, V.nils] [(2, 5, (.t 7))]) <|
 .p 9 [8] (.box 96 (.t 8)) <|
 .m 3 9 <|
 .nil))
 (.seq (.ops (.p 10 [1] (.faddr 1 (.t 1)) <|
 .op (some 11) .i [10] (.load none (.t 10)) <|
 .op (some 12) .str [11] (.call 29 [(.t 11)]) <|
 .m 4 12 <|
 .nil))
 (.seq (.ops (.m 13 3 <|
 .m 14 4 <|
 .p 15 [14] (.bin .eql .none (.t 14) (.con (V.str ⟨0, 0⟩))) <|
 .m 16 15 <|
 .grp 16 false (.p 17 [1, 16] (.faddr 3 (.t 1)) <|
 .p 18 [17, 16] (.load none (.t 17)) <|
 .p 19 [18, 16] (.len false (.t 18)) <|
 .p 20 [1, 16] (.faddr 2 (.t 1)) <|
 .p 21 [20, 16] (.load none (.t 20)) <|
 .p 22 [21, 16] (.len false (.t 21)) <|
 .p 23 [19, 22, 16] (.bin .neq .none (.t 19) (.t 22)) <|
 .nil) 24 [16, 23] (.t 16) (.con (V.bool true)) (.t 23) <|
 .p 25 [13] (.nilck (.t 13)) <|
 .p 26 [25] (.faddr 0 (.t 25)) <|
 .p 27 [26] (.faddr 1 (.t 26)) <|
 .op none .any [27, 24] (.store 1 (.t 27) (.t 24)) <|
 .nil))
 (.seq (.keep [(1, .ptr), (3, .ptr), (4, .str)] [] [] (.gdraw G16_0 H16_0 [(1, .ptr), (3, .ptr)]))
 (.seq (.seq (.ops (.p 36 [1] (.faddr 2 (.t 1)) <|
 .p 37 [36] (.load none (.t 36)) <|
 .p 38 [37] (.len false (.t 37)) <|
 .p 39 [] (.mov (.i 0)) <|
 .nil))
 (.block 0 (.loop [(1, .ptr), (3, .ptr), (37, .any), (38, .i), (39, .i)] [] [] cc2)))
 (.keep [(3, .ptr)] [] [] cc1)))))))
def T16_0 (K2 : Nat → Nat → Nat → Nat → V → Int → Int → H → Ans) (v0_0 : BS) (v0_1 : Int) (v0_2 : V) (v0_3 : V) (v0_4 : V) (σ : H) : Ans :=
 chk (allOne (V.cells (V.agg [(V.str v0_0), (V.int .i64 v0_1), v0_2, v0_3, v0_4]))) (
 let s1 := newB σ (.cells (V.cells (V.agg [(V.str v0_0), (V.int .i64 v0_1), v0_2, v0_3, v0_4])));
 ldnK E s1 (H.next σ) 0 5 fun l2 =>
 rtCons l2 fun x3 l4 =>
 rtStr x3 fun x5 =>
 rtCons l4 fun x6 l7 =>
 rtInt .i64 x6 fun x8 =>
 rtCons l7 fun x9 l10 =>
 rtCons l10 fun x11 l12 =>
 rtCons l12 fun x13 l14 =>
 rtNil l14 (
 chk (allOne (V.cells (V.agg [V.nils, (V.bool false), (V.str x5), (V.int .i64 x8), x9, x11, x13]))) (
 let s15 := newB s1 (.cells (V.cells (V.agg [V.nils, (V.bool false), (V.str x5), (V.int .i64 x8), x9, x11, x13])));
 ldK E s15 (H.next σ) 1 fun u16 =>
 rtInt .i64 u16 fun x17 =>
 callK (D 29 [(V.int .i64 x17)] s15) fun u18 s19 =>
 rtStr u18 fun x20 =>
 joinB (fun c21 s22 =>
 stK 1 (H.next s1) 1 (V.bool c21) s22 fun s24 =>
 gdrawK (W G16_0 H16_0 [(1, (V.ptr (H.next σ) 0)), (3, (V.ptr (H.next s1) 0)), (4, (V.str x20))] s24) fun e25 s26 =>
 getL e25 1 fun u27 =>
 rtPtr u27 fun b28 o29 =>
 getL e25 3 fun u30 =>
 rtPtr u30 fun b31 o32 =>
 ldK E s26 b28 (Nat.add o29 2) fun u33 =>
 slenK u33 fun n34 =>
 K2 b28 o29 b31 o32 u33 (Int.ofNat n34) (Int.ofNat 0) s26) fun k23 =>
 condK (BS.beq x20 (BS.mk 0 0)) (
 k23 true s19) (
 ldK E s19 (H.next σ) 3 fun u35 =>
 slenK u35 fun n36 =>
 ldK E s19 (H.next σ) 2 fun u37 =>
 slenK u37 fun n38 =>
 k23 (not (eqF (Int.ofNat n36) (Int.ofNat n38))) s19))))
def C16_1 : XC := (.seq (.ops (.m 63 3 <|
 .p 64 [63] (.nilck (.t 63)) <|
 .p 65 [64] (.faddr 0 (.t 64)) <|
 .p 66 [] (.buildSlice 9 1 [(V.str ⟨0, 0⟩)] [(0, 1, (.con (V.str ⟨5, 44095653130⟩)))]) <|
 .op (some 67) (.tup []) [65, 66] (.call 30 [(.t 65), (.t 66)]) <|
 .nil))
 (.seq (.seq (.ops (.m 68 3 <|
 .p 69 [68] (.nilck (.t 68)) <|
 .p 70 [69] (.faddr 0 (.t 69)) <|
 .p 71 [70] (.faddr 1 (.t 70)) <|
 .op (some 72) .bool [71] (.load none (.t 71)) <|
 .nil))
 (.cond (.tmp 72) (.seq (.ops (.p 2 [] (.mov (.con (V.str ⟨0, 0⟩))) <|
 .nil))
 .ret)
 .skip))
 (.seq (.ops (.m 73 3 <|
 .p 74 [73] (.nilck (.t 73)) <|
 .p 75 [74] (.faddr 0 (.t 74)) <|
 .p 76 [75] (.faddr 0 (.t 75)) <|
 .p 77 [76] (.load none (.t 76)) <|
 .p 78 [77] (.conv .toStr (.t 77)) <|
 .m 2 78 <|
 .nil))
 .ret)))
def T16_1 (E : List (Nat × Blk)) (D : Den) (W : DrawFn) (v3b : Nat) (v3o : Nat) (σ : H) : Ans :=
 let s1 := newB σ (.cells [(V.str (BS.mk 5 44095653130))]);
 callK (D 30 [(V.ptr v3b v3o), (V.sl (H.next σ) 0 1 (.ex 1))] s1) fun u2 s3 =>
 rtTup u2 fun l4 =>
 rtNil l4 (
 ldK E s3 v3b (Nat.add v3o 1) fun u5 =>
 rtBool u5 fun x6 =>
 condK x6 (
 some ((V.str (BS.mk 0 0)), s3)) (
 ldK E s3 v3b v3o fun u7 =>
 toStrK E s3 u7 fun t8 =>
 some ((V.str t8), s3)))
def C16_2 : XC := (.seq (.ops (.p 40 [39, 38] (.bin .lss .none (.t 39) (.t 38)) <|
 .nil))
 (.seq (.cond (.tmp 40) .skip
 (.exit 0))
 (.seq (.block 1 (.seq (.ops (.m 41 39 <|
 .p 42 [37, 39] (.iaddrS 1 (.t 37) (.t 39)) <|
 .op (some 43) .str [42] (.load none (.t 42)) <|
 .m 5 41 <|
 .m 6 43 <|
 .nil))
 (.seq (.seq (.ops (.m 44 3 <|
 .p 45 [44] (.nilck (.t 44)) <|
 .p 46 [45] (.faddr 0 (.t 45)) <|
 .p 47 [46] (.faddr 1 (.t 46)) <|
 .op (some 48) .bool [47] (.load none (.t 47)) <|
 .nil))
 (.cond (.tmp 48) (.exit 0)
 .skip))
 (.seq (.ops (.m 49 3 <|
 .p 50 [49] (.nilck (.t 49)) <|
 .p 51 [50] (.faddr 0 (.t 50)) <|
 .m 52 6 <|
 .p 53 [52] (.buildSlice 9 3 [(V.str ⟨0, 0⟩), (V.str ⟨0, 0⟩), (V.str ⟨0, 0⟩)] [(0, 1, (.con (V.str ⟨1, 10⟩))), (1, 1, (.t 52)), (2, 1, (.con (V.str ⟨5, 138466179616⟩)))]) <|
 .op (some 54) (.tup []) [51, 53] (.call 30 [(.t 51), (.t 53)]) <|
 .nil))
 (.ops (.m 55 3 <|
 .p 56 [1] (.faddr 3 (.t 1)) <|
 .p 57 [56] (.load none (.t 56)) <|
 .m 58 5 <|
 .p 59 [57, 58] (.iaddrS 1 (.t 57) (.t 58)) <|
 .op (some 60) .i [59] (.load none (.t 59)) <|
 .op (some 61) (.tup []) [55, 60] (.call 31 [(.t 55), (.t 60), (.i 0)]) <|
 .nil))))))
 (.ops (.p 62 [39] (.bin .add .none (.t 39) (.i 1)) <|
 .m 39 62 <|
 .nil)))))
def T16_2 (E : List (Nat × Blk)) (D : Den) (W : DrawFn) (K1 : Nat → Nat → H → Ans) (R2 : Nat → Nat → Nat → Nat → V → Int → Int → H → Ans) (v1b : Nat) (v1o : Nat) (v3b : Nat) (v3o : Nat) (v37 : V) (v38 : Int) (v39 : Int) (σ : H) : Ans :=
 condK (ltF v39 v38) (
 iaddrSK 1 v37 v39 fun b1 o2 =>
 ldK E σ b1 o2 fun u3 =>
 rtStr u3 fun x4 =>
 ldK E σ v3b (Nat.add v3o 1) fun u5 =>
 rtBool u5 fun x6 =>
 condK x6 (
 K1 v3b v3o σ) (
 let s7 := newB σ (.cells [(V.str (BS.mk 1 10)), (V.str x4), (V.str (BS.mk 5 138466179616))]);
 callK (D 30 [(V.ptr v3b v3o), (V.sl (H.next σ) 0 3 (.ex 3))] s7) fun u8 s9 =>
 rtTup u8 fun l10 =>
 rtNil l10 (
 ldK E s9 v1b (Nat.add v1o 3) fun u11 =>
 iaddrSK 1 u11 v39 fun b12 o13 =>
 ldK E s9 b12 o13 fun u14 =>
 rtInt .i64 u14 fun x15 =>
 callK (D 31 [(V.ptr v3b v3o), (V.int .i64 x15), (V.int .i64 (Int.ofNat 0))] s9) fun u16 s17 =>
 rtTup u16 fun l18 =>
 rtNil l18 (
 R2 v1b v1o v3b v3o v37 v38 (addF .i64 v39 (Int.ofNat 1)) s17)))) (
 K1 v3b v3o σ)
theorem P16_0 (cc1 : XC) (cc2 : XC) (v0_0 : BS) (v0_1 : Int) (v0_2 : V) (v0_3 : V) (v0_4 : V) (σ : H) :
  denC E D W N (C16_0 cc1 cc2) ⟨[(0, (V.agg [(V.str v0_0), (V.int .i64 v0_1), v0_2, v0_3, v0_4]))], [], [], σ⟩ (Fin16 E) (fun _ _ => none) (Fin16 E) =
  T16_0 E D W (fun v1b v1o v3b v3o v37 v38 v39 σ => iterK (fun rec s' => denC E D W N cc2 s' (fun s'' => keepS [(1, .ptr), (3, .ptr), (37, .any), (38, .i), (39, .i)] [] [] s'' rec) (blkK 0 (fun s' => denC E D W N (.keep [(3, .ptr)] [] [] cc1) s' (Fin16 E) (fun _ _ => none) (Fin16 E)) (fun _ _ => none)) (Fin16 E)) N ⟨[(1, (V.ptr v1b v1o)), (3, (V.ptr v3b v3o)), (37, v37), (38, (V.int .i64 v38)), (39, (V.int .i64 v39))], [], [], σ⟩) v0_0 v0_1 v0_2 v0_3 v0_4 σ := by kernel_rfl
theorem P16_1 (v3b : Nat) (v3o : Nat) (σ : H) :
  denC E D W N (C16_1 ) ⟨[(3, (V.ptr v3b v3o))], [], [], σ⟩ (Fin16 E) (fun _ _ => none) (Fin16 E) =
  T16_1 E D W  v3b v3o σ := by kernel_rfl
theorem P16_2 (cc1 : XC) (li2 : St → Ans) (v1b : Nat) (v1o : Nat) (v3b : Nat) (v3o : Nat) (v37 : V) (v38 : Int) (v39 : Int) (σ : H) :
  denC E D W N (C16_2 ) ⟨[(1, (V.ptr v1b v1o)), (3, (V.ptr v3b v3o)), (37, v37), (38, (V.int .i64 v38)), (39, (V.int .i64 v39))], [], [], σ⟩ (fun s'' => keepS [(1, .ptr), (3, .ptr), (37, .any), (38, .i), (39, .i)] [] [] s'' li2) (blkK 0 (fun s' => denC E D W N (.keep [(3, .ptr)] [] [] cc1) s' (Fin16 E) (fun _ _ => none) (Fin16 E)) (fun _ _ => none)) (Fin16 E) =
  T16_2 E D W (fun v3b v3o σ => denC E D W N cc1 ⟨[(3, (V.ptr v3b v3o))], [], [], σ⟩ (Fin16 E) (fun _ _ => none) (Fin16 E)) (fun v1b v1o v3b v3o v37 v38 v39 σ => li2 ⟨[(1, (V.ptr v1b v1o)), (3, (V.ptr v3b v3o)), (37, v37), (38, (V.int .i64 v38)), (39, (V.int .i64 v39))], [], [], σ⟩) v1b v1o v3b v3o v37 v38 v39 σ := by kernel_rfl
def J16_1 (E : List (Nat × Blk)) (D : Den) (W : DrawFn) (N : Nat) : Nat → Nat → H → Ans := T16_1 E D W 
theorem JE16_1 (v3b : Nat) (v3o : Nat) (σ : H) :
  denC E D W N C16_1 ⟨[(3, (V.ptr v3b v3o))], [], [], σ⟩ (Fin16 E) (fun _ _ => none) (Fin16 E) = J16_1 E D W N v3b v3o σ := by
  refine (P16_1 E D W N   v3b v3o σ).trans ?_
  kernel_rfl
def L16_2 (n : Nat) : Nat → Nat → Nat → Nat → V → Int → Int → H → Ans :=
  Nat.rec (fun _ _ _ _ _ _ _ _ => none) (fun _ ih => T16_2 E D W (J16_1 E D W N ) ih) n
theorem LE16_2 (n : Nat) : ∀ (v1b : Nat) (v1o : Nat) (v3b : Nat) (v3o : Nat) (v37 : V) (v38 : Int) (v39 : Int) (σ : H),
  iterK (fun rec s' => denC E D W N C16_2 s' (fun s'' => keepS [(1, .ptr), (3, .ptr), (37, .any), (38, .i), (39, .i)] [] [] s'' rec) (blkK 0 (fun s' => denC E D W N (.keep [(3, .ptr)] [] [] C16_1) s' (Fin16 E) (fun _ _ => none) (Fin16 E)) (fun _ _ => none)) (Fin16 E)) n ⟨[(1, (V.ptr v1b v1o)), (3, (V.ptr v3b v3o)), (37, v37), (38, (V.int .i64 v38)), (39, (V.int .i64 v39))], [], [], σ⟩ = L16_2 E D W N n v1b v1o v3b v3o v37 v38 v39 σ := by
  induction n with
  | zero => intro v1b v1o v3b v3o v37 v38 v39 σ; rfl
  | succ n ihn =>
    intro v1b v1o v3b v3o v37 v38 v39 σ
    rw [iterK_succ]
    refine (P16_2 E D W N C16_1 (iterK (fun rec s' => denC E D W N C16_2 s' (fun s'' => keepS [(1, .ptr), (3, .ptr), (37, .any), (38, .i), (39, .i)] [] [] s'' rec) (blkK 0 (fun s' => denC E D W N (.keep [(3, .ptr)] [] [] C16_1) s' (Fin16 E) (fun _ _ => none) (Fin16 E)) (fun _ _ => none)) (Fin16 E)) n) v1b v1o v3b v3o v37 v38 v39 σ).trans ?_
    simp only [ihn, JE16_1]
    kernel_rfl
def J16_0 : BS → Int → V → V → V → H → Ans := T16_0 E D W (L16_2 E D W N N)
theorem JE16_0 (v0_0 : BS) (v0_1 : Int) (v0_2 : V) (v0_3 : V) (v0_4 : V) (σ : H) :
  denC E D W N (C16_0 C16_1 C16_2) ⟨[(0, (V.agg [(V.str v0_0), (V.int .i64 v0_1), v0_2, v0_3, v0_4]))], [], [], σ⟩ (Fin16 E) (fun _ _ => none) (Fin16 E) = J16_0 E D W N v0_0 v0_1 v0_2 v0_3 v0_4 σ := by
  refine (P16_0 E D W N C16_1 C16_2  v0_0 v0_1 v0_2 v0_3 v0_4 σ).trans ?_
  simp only [LE16_2]
  kernel_rfl
def F16 (args : List V) (σ : H) : Ans :=
 rtCons args fun x1 l2 =>
 rtAgg x1 fun l3 =>
 rtCons l3 fun x4 l5 =>
 rtStr x4 fun x6 =>
 rtCons l5 fun x7 l8 =>
 rtInt .i64 x7 fun x9 =>
 rtCons l8 fun x10 l11 =>
 rtCons l11 fun x12 l13 =>
 rtCons l13 fun x14 l15 =>
 rtNil l15 (
 rtNil l2 (
 J16_0 E D W N x6 x9 x10 x12 x14 σ))
def A16 : XFn := ⟨79, [(.agg [.str, .i, .any, .any, .any])], [(.tmp 2)], (C16_0 C16_1 C16_2)⟩
theorem FE16 (args : List V) (σ : H) : runX E D W N A16 args σ = F16 E D W N args σ := by
  unfold F16
  simp only [← JE16_0]
  kernel_rfl
theorem AO16 : A16.body.ok = true := by kernel_rfl

def C17_0 : XC := (.seq (.ops (.p 4 [] (.mov (.con (V.bool false))) <|
 .nil))
 (.seq (.ops (.m 5 0 <|
 .m 6 1 <|
 .op (some 7) .i [5, 6] (.call 32 [(.t 5), (.t 6)]) <|
 .p 8 [7] (.bin .geq .none (.t 7) (.i 0)) <|
 .m 4 8 <|
 .nil))
 .ret))
def A17 : XFn := ⟨9, [.any, .any], [(.tmp 4)], C17_0⟩
def C18_0 : XC := (.seq (.ops (.p 2 [0] (.box 46 (.t 0)) <|
 .p 3 [] (.mov (.con (V.bool false))) <|
 .nil))
 (.seq (.ops (.p 4 [2] (.faddr 0 (.t 2)) <|
 .p 5 [4] (.faddr 1 (.t 4)) <|
 .op (some 6) .str [5] (.load none (.t 5)) <|
 .p 7 [1] (.faddr 0 (.t 1)) <|
 .p 8 [7] (.faddr 1 (.t 7)) <|
 .op (some 9) .str [8] (.load none (.t 8)) <|
 .p 10 [6, 9] (.bin .eql .none (.t 6) (.t 9)) <|
 .m 3 10 <|
 .nil))
 .ret))
def A18 : XFn := ⟨11, [(.agg [.i, .str, .str, .any, .any, .any]), .any], [(.tmp 3)], C18_0⟩
def C20_0 : XC := (.seq (.ops (.p 4 [] (.mov (.i 0)) <|
 .p 5 [] (.mov (.con (V.bool false))) <|
 .nil))
 (.seq (.ops (.m 6 0 <|
 .p 7 [6] (.nilck (.t 6)) <|
 .p 8 [7] (.faddr 0 (.t 7)) <|
 .p 9 [8] (.load none (.t 8)) <|
 .m 10 1 <|
 .op (some 11) (.tup [.i, .bool]) [9, 10] (.call 35 [(.t 9), (.t 10), (.con (V.fn 36 [] []))]) <|
 .p 12 [11] (.extract 0 (.t 11)) <|
 .p 13 [11] (.extract 1 (.t 11)) <|
 .m 4 12 <|
 .m 5 13 <|
 .nil))
 .ret))
def A20 : XFn := ⟨14, [.ptr, .str], [(.tmp 4), (.tmp 5)], C20_0⟩
def C21_0 : XC := (.seq (.ops (.p 2 [] (.mov (.con V.nils)) <|
 .nil))
 (.seq (.seq (.ops (.m 3 0 <|
 .p 4 [3] (.bin .eql .slice (.t 3) (.con V.nils)) <|
 .nil))
 (.cond (.tmp 4) (.seq (.ops (.p 2 [] (.mov (.con V.nils)) <|
 .nil))
 .ret)
 .skip))
 (.seq (.ops (.p 5 [] (.buildSlice 57 0 [] []) <|
 .m 6 0 <|
 .op (some 7) .one [5, 6] (.append 57 2 40 (.t 5) (.t 6)) <|
 .m 2 7 <|
 .nil))
 .ret)))
def A21 : XFn := ⟨8, [.any], [(.tmp 2)], C21_0⟩
def C22_0 : XC := (.seq (.ops (.p 6 [] (.mov (.con V.nils)) <|
 .nil))
 (.seq (.ops (.m 10 0 <|
 .m 11 1 <|
 .p 12 [10, 11] (.sliceSl 2 (.t 10) (some (.t 11)) none none) <|
 .nil))
 (.seq (.ops (.m 13 2 <|
 .p 14 [13] (.len false (.t 13)) <|
 .m 7 14 <|
 .nil))
 (.seq (.seq (.ops (.m 15 7 <|
 .p 16 [15] (.bin .eql .none (.t 15) (.i 0)) <|
 .nil))
 (.cond (.tmp 16) (.seq (.ops (.m 17 0 <|
 .m 6 17 <|
 .nil))
 .ret)
 .skip))
 (.seq (.ops (.m 18 0 <|
 .p 19 [18] (.len false (.t 18)) <|
 .m 8 19 <|
 .nil))
 (.seq (.seq (.ops (.m 20 1 <|
 .m 21 8 <|
 .p 22 [20, 21] (.bin .eql .none (.t 20) (.t 21)) <|
 .nil))
 (.cond (.tmp 22) (.seq (.ops (.m 23 0 <|
 .m 24 2 <|
 .op (some 25) .one [23, 24] (.append 57 2 40 (.t 23) (.t 24)) <|
 .m 6 25 <|
 .nil))
 .ret)
 .skip))
 (.seq (.seq (.ops (.m 26 8 <|
 .m 27 7 <|
 .p 28 [26, 27] (.bin .add .none (.t 26) (.t 27)) <|
 .m 29 0 <|
 .p 30 [29] (.cap (.t 29)) <|
 .p 31 [28, 30] (.bin .gtr .none (.t 28) (.t 30)) <|
 .nil))
 (.cond (.tmp 31) (.seq (.ops (.m 32 0 <|
 .m 33 1 <|
 .p 34 [32, 33] (.sliceSl 2 (.t 32) none (some (.t 33)) none) <|
 .m 35 8 <|
 .m 36 7 <|
 .p 37 [35, 36] (.bin .add .none (.t 35) (.t 36)) <|
 .m 38 1 <|
 .p 39 [37, 38] (.bin .sub .none (.t 37) (.t 38)) <|
 .p 40 [34, 39] .bad <|
 .m 9 40 <|
 .nil))
 (.seq (.ops (.m 41 9 <|
 .m 42 1 <|
 .p 43 [41, 42] (.sliceSl 2 (.t 41) (some (.t 42)) none none) <|
 .m 44 2 <|
 .op (some 45) (.int .i64) [43, 44] (.copy 2 (.t 43) (.t 44)) <|
 .nil)) (.seq (.draw (.m 46 9 <|
 .m 47 1 <|
 .m 48 7 <|
 .p 49 [47, 48] (.bin .add .none (.t 47) (.t 48)) <|
 .p 50 [46, 49] (.sliceSl 2 (.t 46) (some (.t 49)) none none) <|
 .m 51 0 <|
 .m 52 1 <|
 .p 53 [51, 52] (.sliceSl 2 (.t 51) (some (.t 52)) none none) <|
 .op (some 54) (.int .i64) [50, 53] (.copy 2 (.t 50) (.t 53)) <|
 .nil) [0, 0, 0, 6, 15, 0, 0, 96, 255]) (.seq (.ops (.m 55 9 <|
 .m 6 55 <|
 .nil)) .ret))))
 .skip))
 (.seq (.ops (.m 56 0 <|
 .m 57 8 <|
 .m 58 7 <|
 .p 59 [57, 58] (.bin .add .none (.t 57) (.t 58)) <|
 .p 60 [56, 59] (.sliceSl 2 (.t 56) none (some (.t 59)) none) <|
 .m 0 60 <|
 .nil))
 (.seq (.seq (.ops (.m 61 2 <|
 .m 62 0 <|
 .m 63 1 <|
 .m 64 7 <|
 .p 65 [63, 64] (.bin .add .none (.t 63) (.t 64)) <|
 .p 66 [62, 65] (.sliceSl 2 (.t 62) (some (.t 65)) none none) <|
 .op (some 67) .bool [61, 66] (.call 38 [(.t 61), (.t 66)]) <|
 .p 68 [67] (.un .not (.t 67)) <|
 .nil))
 (.cond (.tmp 68) (.seq (.draw (.m 69 0 <|
 .m 70 1 <|
 .m 71 7 <|
 .p 72 [70, 71] (.bin .add .none (.t 70) (.t 71)) <|
 .p 73 [69, 72] (.sliceSl 2 (.t 69) (some (.t 72)) none none) <|
 .m 74 0 <|
 .m 75 1 <|
 .p 76 [74, 75] (.sliceSl 2 (.t 74) (some (.t 75)) none none) <|
 .op (some 77) (.int .i64) [73, 76] (.copy 2 (.t 73) (.t 76)) <|
 .nil) [0, 0, 0, 6, 15, 0, 0, 96, 255])
 (.seq (.ops (.m 78 0 <|
 .m 79 1 <|
 .p 80 [78, 79] (.sliceSl 2 (.t 78) (some (.t 79)) none none) <|
 .m 81 2 <|
 .op (some 82) (.int .i64) [80, 81] (.copy 2 (.t 80) (.t 81)) <|
 .nil))
 (.seq (.ops (.m 83 0 <|
 .m 6 83 <|
 .nil))
 .ret)))
 .skip))
 (.seq (.ops (.m 84 0 <|
 .m 85 8 <|
 .p 86 [84, 85] (.sliceSl 2 (.t 84) (some (.t 85)) none none) <|
 .m 87 2 <|
 .op (some 88) (.int .i64) [86, 87] (.copy 2 (.t 86) (.t 87)) <|
 .nil))
 (.seq (.ops (.m 89 0 <|
 .m 90 1 <|
 .p 91 [89, 90] (.sliceSl 2 (.t 89) (some (.t 90)) none none) <|
 .m 92 7 <|
 .op (some 93) (.tup []) [91, 92] (.call 39 [(.t 91), (.t 92)]) <|
 .nil))
 (.seq (.ops (.m 94 0 <|
 .m 6 94 <|
 .nil))
 .ret))))))))))))
def A22 : XFn := ⟨95, [.any, .i, .any], [(.tmp 6)], C22_0⟩
def C23_0 : XC := (.seq (.ops (.p 2 [] (.mov (.con V.nils)) <|
 .nil))
 (.seq (.ops (.m 3 0 <|
 .m 4 0 <|
 .p 5 [4] (.len false (.t 4)) <|
 .m 6 0 <|
 .p 7 [6] (.len false (.t 6)) <|
 .p 8 [3, 5, 7] (.sliceSl 6 (.t 3) none (some (.t 5)) (some (.t 7))) <|
 .m 2 8 <|
 .nil))
 .ret))
def A23 : XFn := ⟨9, [.any], [(.tmp 2)], C23_0⟩
/-! ### F24: ogham_lex.Tokens -/
def Fin24 (E : List (Nat × Blk)) : St → Ans := fun s => resK E s [(.tmp 2), (.tmp 3), (.tmp 4)] fun l => some (oneV l, s.σ)
def C24_0 (cc1 : XC) (cc2 : XC) : XC := (.seq (.ops (.p 2 [] (.mov (.con V.nils)) <|
 .p 3 [] (.mov (.i 0)) <|
 .p 4 [] (.mov (.i 0)) <|
 .nil))
 (.seq (.seq (.ops (.m 10 0 <|
 .p 11 [10] (.len true (.t 10)) <|
 .p 12 [11] (.bin .gtr .none (.t 11) (.i 8000)) <|
 .nil))
 (.cond (.tmp 12) (.seq (.ops (.p 2 [] (.mov (.con V.nils)) <|
 .p 3 [] (.mov (.i 0)) <|
 .p 4 [] (.mov (.i 5)) <|
 .nil))
 .ret)
 .skip))
 (.seq (.ops (.m 13 0 <|
 .op (some 14) (.agg [.str, .i]) [13] (.build [(V.str ⟨0, 0⟩), (V.int .i64 (Int.ofNat 0))] [(0, 1, (.t 13))]) <|
 .op (some 15) (.agg [.str, .i]) [14] (.build [(V.str ⟨0, 0⟩), (V.int .i64 (Int.ofNat 0))] [(0, 2, (.t 14))]) <|
 .p 16 [15] (.box 112 (.t 15)) <|
 .m 5 16 <|
 .nil))
 (.seq (.ops (.p 6 [] (.mov (.con V.nils)) <|
 .nil))
 (.seq (.seq (.ops (.m 17 5 <|
 .p 18 [17] (.nilck (.t 17)) <|
 .p 19 [18] (.faddr 0 (.t 18)) <|
 .op (some 20) (.tup []) [19] (.call 40 [(.t 19)]) <|
 .nil))
 (.block 0 (.loop [(0, .str), (5, .ptr), (6, .any)] [] [] cc2)))
 (.keep [(0, .str), (6, .any)] [] [] cc1))))))
def T24_0 (E : List (Nat × Blk)) (D : Den) (W : DrawFn) (K2 : BS → Nat → Nat → V → H → Ans) (v0 : BS) (σ : H) : Ans :=
 condK (ltF (Int.ofNat 8000) (Int.ofNat (BS.len v0))) (
 some ((V.tup [V.nils, (V.int .i64 (Int.ofNat 0)), (V.int .i64 (Int.ofNat 5))]), σ)) (
 chk (allOne (V.cells (V.agg [(V.str v0), (V.int .i64 (Int.ofNat 0))]))) (
 let s1 := newB σ (.cells (V.cells (V.agg [(V.str v0), (V.int .i64 (Int.ofNat 0))])));
 callK (D 40 [(V.ptr (H.next σ) 0)] s1) fun u2 s3 =>
 rtTup u2 fun l4 =>
 rtNil l4 (
 K2 v0 (H.next σ) 0 V.nils s3)))
def C24_1 : XC := (.seq (.ops (.m 53 6 <|
 .m 54 0 <|
 .p 55 [54] (.len true (.t 54)) <|
 .op (some 56) (.agg [.i, .str, .i]) [55] (.build [(V.int .i64 (Int.ofNat 0)), (V.str ⟨0, 0⟩), (V.int .i64 (Int.ofNat 0))] [(2, 1, (.t 55))]) <|
 .p 57 [56] (.buildSlice 116 1 [(V.int .i64 (Int.ofNat 0)), (V.str ⟨0, 0⟩), (V.int .i64 (Int.ofNat 0))] [(0, 3, (.t 56))]) <|
 .op (some 58) .one [53, 57] (.append 116 3 32 (.t 53) (.t 57)) <|
 .m 2 58 <|
 .p 3 [] (.mov (.i 0)) <|
 .p 4 [] (.mov (.i 0)) <|
 .nil))
 .ret)
def T24_1 (E : List (Nat × Blk)) (D : Den) (W : DrawFn) (v0 : BS) (v6 : V) (σ : H) : Ans :=
 let s1 := newB σ (.cells [(V.int .i64 (Int.ofNat 0)), (V.str (BS.mk 0 0)), (V.int .i64 (Int.ofNat (BS.len v0)))]);
 appK E 3 32 v6 (V.sl (H.next σ) 0 1 (.ex 1)) s1 fun u2 s3 =>
 rtOne u2 (
 some ((V.tup [u2, (V.int .i64 (Int.ofNat 0)), (V.int .i64 (Int.ofNat 0))]), s3))
def C24_2 : XC := (.seq (.seq (.ops (.m 21 5 <|
 .p 22 [21] (.nilck (.t 21)) <|
 .p 23 [22] (.faddr 0 (.t 22)) <|
 .p 24 [23] (.faddr 1 (.t 23)) <|
 .op (some 25) .i [24] (.load none (.t 24)) <|
 .m 26 0 <|
 .p 27 [26] (.len true (.t 26)) <|
 .p 28 [25, 27] (.bin .lss .none (.t 25) (.t 27)) <|
 .nil))
 (.cond (.tmp 28) .skip
 (.exit 0)))
 (.seq (.block 1 (.seq (.ops (.m 33 5 <|
 .p 34 [33] (.nilck (.t 33)) <|
 .p 35 [34] (.faddr 0 (.t 34)) <|
 .p 36 [35] (.faddr 1 (.t 35)) <|
 .op (some 37) .i [36] (.load none (.t 36)) <|
 .m 7 37 <|
 .nil))
 (.seq (.ops (.m 39 5 <|
 .op (some 40) (.tup [.i, .str]) [39] (.call 41 [(.t 39)]) <|
 .m 38 40 <|
 .p 41 [38] (.extract 0 (.t 38)) <|
 .p 42 [38] (.extract 1 (.t 38)) <|
 .m 8 41 <|
 .m 9 42 <|
 .nil))
 (.seq (.seq (.ops (.m 43 8 <|
 .p 44 [43] (.bin .eql .none (.t 43) (.i 0)) <|
 .nil))
 (.cond (.tmp 44) (.seq (.ops (.m 45 7 <|
 .p 2 [] (.mov (.con V.nils)) <|
 .m 3 45 <|
 .p 4 [] (.mov (.i 6)) <|
 .nil))
 .ret)
 .skip))
 (.ops (.m 46 6 <|
 .m 47 8 <|
 .m 48 9 <|
 .m 49 7 <|
 .op (some 50) (.agg [.i, .str, .i]) [47, 48, 49] (.build [(V.int .i64 (Int.ofNat 0)), (V.str ⟨0, 0⟩), (V.int .i64 (Int.ofNat 0))] [(0, 1, (.t 47)), (1, 1, (.t 48)), (2, 1, (.t 49))]) <|
 .p 51 [50] (.buildSlice 116 1 [(V.int .i64 (Int.ofNat 0)), (V.str ⟨0, 0⟩), (V.int .i64 (Int.ofNat 0))] [(0, 3, (.t 50))]) <|
 .op (some 52) .one [46, 51] (.append 116 3 32 (.t 46) (.t 51)) <|
 .m 6 52 <|
 .nil))))))
 (.ops (.m 29 5 <|
 .p 30 [29] (.nilck (.t 29)) <|
 .p 31 [30] (.faddr 0 (.t 30)) <|
 .op (some 32) (.tup []) [31] (.call 40 [(.t 31)]) <|
 .nil))))
def T24_2 (E : List (Nat × Blk)) (D : Den) (W : DrawFn) (K1 : BS → V → H → Ans) (R2 : BS → Nat → Nat → V → H → Ans) (v0 : BS) (v5b : Nat) (v5o : Nat) (v6 : V) (σ : H) : Ans :=
 ldK E σ v5b (Nat.add v5o 1) fun u1 =>
 rtInt .i64 u1 fun x2 =>
 condK (ltF x2 (Int.ofNat (BS.len v0))) (
 ldK E σ v5b (Nat.add v5o 1) fun u3 =>
 rtInt .i64 u3 fun x4 =>
 callK (D 41 [(V.ptr v5b v5o)] σ) fun u5 s6 =>
 rtTup u5 fun l7 =>
 rtCons l7 fun x8 l9 =>
 rtInt .i64 x8 fun x10 =>
 rtCons l9 fun x11 l12 =>
 rtStr x11 fun x13 =>
 rtNil l12 (
 condK (eqF x10 (Int.ofNat 0)) (
 some ((V.tup [V.nils, (V.int .i64 x4), (V.int .i64 (Int.ofNat 6))]), s6)) (
 let s14 := newB s6 (.cells [(V.int .i64 x10), (V.str x13), (V.int .i64 x4)]);
 appK E 3 32 v6 (V.sl (H.next s6) 0 1 (.ex 1)) s14 fun u15 s16 =>
 rtOne u15 (
 callK (D 40 [(V.ptr v5b v5o)] s16) fun u17 s18 =>
 rtTup u17 fun l19 =>
 rtNil l19 (
 R2 v0 v5b v5o u15 s18))))) (
 K1 v0 v6 σ)
theorem P24_0 (cc1 : XC) (cc2 : XC) (v0 : BS) (σ : H) :
  denC E D W N (C24_0 cc1 cc2) ⟨[(0, (V.str v0))], [], [], σ⟩ (Fin24 E) (fun _ _ => none) (Fin24 E) =
  T24_0 E D W (fun v0 v5b v5o v6 σ => iterK (fun rec s' => denC E D W N cc2 s' (fun s'' => keepS [(0, .str), (5, .ptr), (6, .any)] [] [] s'' rec) (blkK 0 (fun s' => denC E D W N (.keep [(0, .str), (6, .any)] [] [] cc1) s' (Fin24 E) (fun _ _ => none) (Fin24 E)) (fun _ _ => none)) (Fin24 E)) N ⟨[(0, (V.str v0)), (5, (V.ptr v5b v5o)), (6, v6)], [], [], σ⟩) v0 σ := by kernel_rfl
theorem P24_1 (v0 : BS) (v6 : V) (σ : H) :
  denC E D W N (C24_1 ) ⟨[(0, (V.str v0)), (6, v6)], [], [], σ⟩ (Fin24 E) (fun _ _ => none) (Fin24 E) =
  T24_1 E D W  v0 v6 σ := by kernel_rfl
theorem P24_2 (cc1 : XC) (li2 : St → Ans) (v0 : BS) (v5b : Nat) (v5o : Nat) (v6 : V) (σ : H) :
  denC E D W N (C24_2 ) ⟨[(0, (V.str v0)), (5, (V.ptr v5b v5o)), (6, v6)], [], [], σ⟩ (fun s'' => keepS [(0, .str), (5, .ptr), (6, .any)] [] [] s'' li2) (blkK 0 (fun s' => denC E D W N (.keep [(0, .str), (6, .any)] [] [] cc1) s' (Fin24 E) (fun _ _ => none) (Fin24 E)) (fun _ _ => none)) (Fin24 E) =
  T24_2 E D W (fun v0 v6 σ => denC E D W N cc1 ⟨[(0, (V.str v0)), (6, v6)], [], [], σ⟩ (Fin24 E) (fun _ _ => none) (Fin24 E)) (fun v0 v5b v5o v6 σ => li2 ⟨[(0, (V.str v0)), (5, (V.ptr v5b v5o)), (6, v6)], [], [], σ⟩) v0 v5b v5o v6 σ := by kernel_rfl
def J24_1 (E : List (Nat × Blk)) (D : Den) (W : DrawFn) (N : Nat) : BS → V → H → Ans := T24_1 E D W 
theorem JE24_1 (v0 : BS) (v6 : V) (σ : H) :
  denC E D W N C24_1 ⟨[(0, (V.str v0)), (6, v6)], [], [], σ⟩ (Fin24 E) (fun _ _ => none) (Fin24 E) = J24_1 E D W N v0 v6 σ := by
  refine (P24_1 E D W N   v0 v6 σ).trans ?_
  kernel_rfl
def L24_2 (n : Nat) : BS → Nat → Nat → V → H → Ans :=
  Nat.rec (fun _ _ _ _ _ => none) (fun _ ih => T24_2 E D W (J24_1 E D W N ) ih) n
theorem LE24_2 (n : Nat) : ∀ (v0 : BS) (v5b : Nat) (v5o : Nat) (v6 : V) (σ : H),
  iterK (fun rec s' => denC E D W N C24_2 s' (fun s'' => keepS [(0, .str), (5, .ptr), (6, .any)] [] [] s'' rec) (blkK 0 (fun s' => denC E D W N (.keep [(0, .str), (6, .any)] [] [] C24_1) s' (Fin24 E) (fun _ _ => none) (Fin24 E)) (fun _ _ => none)) (Fin24 E)) n ⟨[(0, (V.str v0)), (5, (V.ptr v5b v5o)), (6, v6)], [], [], σ⟩ = L24_2 E D W N n v0 v5b v5o v6 σ := by
  induction n with
  | zero => intro v0 v5b v5o v6 σ; rfl
  | succ n ihn =>
    intro v0 v5b v5o v6 σ
    rw [iterK_succ]
    refine (P24_2 E D W N C24_1 (iterK (fun rec s' => denC E D W N C24_2 s' (fun s'' => keepS [(0, .str), (5, .ptr), (6, .any)] [] [] s'' rec) (blkK 0 (fun s' => denC E D W N (.keep [(0, .str), (6, .any)] [] [] C24_1) s' (Fin24 E) (fun _ _ => none) (Fin24 E)) (fun _ _ => none)) (Fin24 E)) n) v0 v5b v5o v6 σ).trans ?_
    simp only [ihn, JE24_1]
    kernel_rfl
def J24_0 : BS → H → Ans := T24_0 E D W (L24_2 E D W N N)
theorem JE24_0 (v0 : BS) (σ : H) :
  denC E D W N (C24_0 C24_1 C24_2) ⟨[(0, (V.str v0))], [], [], σ⟩ (Fin24 E) (fun _ _ => none) (Fin24 E) = J24_0 E D W N v0 σ := by
  refine (P24_0 E D W N C24_1 C24_2  v0 σ).trans ?_
  simp only [LE24_2]
  kernel_rfl
def F24 (args : List V) (σ : H) : Ans :=
 rtCons args fun x1 l2 =>
 rtStr x1 fun x3 =>
 rtNil l2 (
 J24_0 E D W N x3 σ)
def A24 : XFn := ⟨59, [.str], [(.tmp 2), (.tmp 3), (.tmp 4)], (C24_0 C24_1 C24_2)⟩
theorem FE24 (args : List V) (σ : H) : runX E D W N A24 args σ = F24 E D W N args σ := by
  unfold F24
  simp only [← JE24_0]
  kernel_rfl
theorem AO24 : A24.body.ok = true := by kernel_rfl

/-! ### F25: __ogham_syntax.parser_.module -/
def Fin25 (E : List (Nat × Blk)) : St → Ans := fun s => resK E s [(.tmp 2)] fun l => some (oneV l, s.σ)
def C25_0 (cc1 : XC) (cc2 : XC) : XC := (.seq (.ops (.p 2 [] (.mov (.con (V.bool false))) <|
 .nil))
 (.seq (.ops (.m 8 0 <|
 .op (some 9) (.tup [(.agg [.i, .str, .i]), .bool]) [8] (.call 42 [(.t 8), (.i 1)]) <|
 .m 7 9 <|
 .p 10 [7] (.extract 0 (.t 7)) <|
 .p 11 [7] (.extract 1 (.t 7)) <|
 .pal 3 [] 116 [(V.int .i64 (Int.ofNat 0)), (V.str ⟨0, 0⟩), (V.int .i64 (Int.ofNat 0))] <|
 .op none (.agg [.i, .str, .i]) [3, 10] (.store 3 (.t 3) (.t 10)) <|
 .m 4 11 <|
 .nil))
 (.seq (.seq (.ops (.m 12 4 <|
 .p 13 [12] (.un .not (.t 12)) <|
 .m 14 13 <|
 .grp 14 false (.p 15 [0, 14] (.mov (.t 0)) <|
 .p 16 [14] (.buildSlice 9 1 [(V.str ⟨0, 0⟩)] [(0, 1, (.con (V.str ⟨11, 100710650190388740279911748⟩)))]) <|
 .op (some 17) .bool [15, 16, 14] (.call 43 [(.t 15), (.t 16)]) <|
 .p 18 [17, 14] (.un .not (.t 17)) <|
 .nil) 19 [14, 18] (.t 14) (.con (V.bool true)) (.t 18) <|
 .nil))
 (.cond (.tmp 19) (.seq (.ops (.p 2 [] (.mov (.con (V.bool false))) <|
 .nil))
 .ret)
 .skip))
 (.seq (.ops (.m 20 0 <|
 .p 21 [3] (.faddr 1 (.t 3)) <|
 .op (some 22) .str [21] (.load none (.t 21)) <|
 .p 23 [20] (.nilck (.t 20)) <|
 .p 24 [23] (.faddr 2 (.t 23)) <|
 .p 25 [24] (.faddr 0 (.t 24)) <|
 .op none .any [25, 22] (.store 1 (.t 25) (.t 22)) <|
 .nil))
 (.seq (.seq (.ops (.p 26 [] (.buildSlice 9 3 [(V.str ⟨0, 0⟩), (V.str ⟨0, 0⟩), (V.str ⟨0, 0⟩)] [(0, 1, (.con (V.str ⟨8, 6073459554577832005⟩))), (1, 1, (.con (V.str ⟨8, 6073459554577829193⟩))), (2, 1, (.con (V.str ⟨9, 1241215773001651606849⟩)))]) <|
 .p 27 [26] (.len false (.t 26)) <|
 .p 28 [] (.mov (.i 0)) <|
 .nil))
 (.block 0 (.loop [(0, .ptr), (26, .any), (27, .i), (28, .i)] [] [] cc2)))
 (.keep [(0, .ptr)] [] [] cc1))))))
def T25_0 (E : List (Nat × Blk)) (D : Den) (W : DrawFn) (K2 : Nat → Nat → V → Int → Int → H → Ans) (v0b : Nat) (v0o : Nat) (σ : H) : Ans :=
 callK (D 42 [(V.ptr v0b v0o), (V.int .i64 (Int.ofNat 1))] σ) fun u1 s2 =>
 rtTup u1 fun l3 =>
 rtCons l3 fun x4 l5 =>
 rtAgg x4 fun l6 =>
 rtCons l6 fun x7 l8 =>
 rtInt .i64 x7 fun x9 =>
 rtCons l8 fun x10 l11 =>
 rtStr x10 fun x12 =>
 rtCons l11 fun x13 l14 =>
 rtInt .i64 x13 fun x15 =>
 rtNil l14 (
 rtCons l5 fun x16 l17 =>
 rtBool x16 fun x18 =>
 rtNil l17 (
 joinB (fun c19 s20 =>
 condK c19 (
 some ((V.bool false), s20)) (
 stK 1 v0b (Nat.add v0o 2) (V.str x12) s20 fun s22 =>
 let s23 := newB s22 (.cells [(V.str (BS.mk 8 6073459554577832005)), (V.str (BS.mk 8 6073459554577829193)), (V.str (BS.mk 9 1241215773001651606849))]);
 slenK (V.sl (H.next s22) 0 3 (.ex 3)) fun n24 =>
 K2 v0b v0o (V.sl (H.next s22) 0 3 (.ex 3)) (Int.ofNat n24) (Int.ofNat 0) s23)) fun k21 =>
 condK (not x18) (
 k21 true s2) (
 let s25 := newB s2 (.cells [(V.str (BS.mk 11 100710650190388740279911748))]);
 callK (D 43 [(V.ptr v0b v0o), (V.sl (H.next s2) 0 1 (.ex 1))] s25) fun u26 s27 =>
 rtBool u26 fun x28 =>
 k21 (not x28) s27)))
def C25_1 (cc3 : XC) (cc4 : XC) : XC := (.seq (.seq (.ops (.m 50 0 <|
 .p 51 [] (.buildSlice 9 2 [(V.str ⟨0, 0⟩), (V.str ⟨0, 0⟩)] [(0, 1, (.con (V.str ⟨3, 4012602⟩))), (1, 1, (.con (V.str ⟨5, 336236856642⟩)))]) <|
 .op (some 52) .bool [50, 51] (.call 43 [(.t 50), (.t 51)]) <|
 .p 53 [52] (.un .not (.t 52)) <|
 .nil))
 (.cond (.tmp 53) (.seq (.ops (.p 2 [] (.mov (.con (V.bool false))) <|
 .nil))
 .ret)
 .skip))
 (.seq (.block 2 (.loop [(0, .ptr)] [] [] cc4))
 (.keep [(0, .ptr)] [] [] cc3)))
def T25_1 (E : List (Nat × Blk)) (D : Den) (W : DrawFn) (K4 : Nat → Nat → H → Ans) (v0b : Nat) (v0o : Nat) (σ : H) : Ans :=
 let s1 := newB σ (.cells [(V.str (BS.mk 3 4012602)), (V.str (BS.mk 5 336236856642))]);
 callK (D 43 [(V.ptr v0b v0o), (V.sl (H.next σ) 0 2 (.ex 2))] s1) fun u2 s3 =>
 rtBool u2 fun x4 =>
 condK (not x4) (
 some ((V.bool false), s3)) (
 K4 v0b v0o s3)
def C25_2 : XC := (.seq (.ops (.p 29 [28, 27] (.bin .lss .none (.t 28) (.t 27)) <|
 .nil))
 (.seq (.cond (.tmp 29) .skip
 (.exit 0))
 (.seq (.block 1 (.seq (.ops (.m 30 28 <|
 .p 31 [26, 28] (.iaddrS 1 (.t 26) (.t 28)) <|
 .op (some 32) .str [31] (.load none (.t 31)) <|
 .m 5 30 <|
 .m 6 32 <|
 .nil))
 (.seq (.seq (.ops (.m 33 0 <|
 .p 34 [33] (.nilck (.t 33)) <|
 .p 35 [34] (.faddr 0 (.t 34)) <|
 .m 36 6 <|
 .op (some 37) .bool [35, 36] (.call 44 [(.t 35), (.t 36)]) <|
 .p 38 [37] (.un .not (.t 37)) <|
 .nil))
 (.cond (.tmp 38) (.exit 1)
 .skip))
 (.seq (.ops (.m 39 0 <|
 .m 40 5 <|
 .p 41 [39] (.nilck (.t 39)) <|
 .p 42 [41] (.faddr 2 (.t 41)) <|
 .p 43 [42] (.faddr 1 (.t 42)) <|
 .op none .any [43, 40] (.store 1 (.t 43) (.t 40)) <|
 .nil))
 (.seq (.seq (.ops (.m 44 0 <|
 .m 45 6 <|
 .p 46 [45] (.buildSlice 9 2 [(V.str ⟨0, 0⟩), (V.str ⟨0, 0⟩)] [(0, 1, (.t 45)), (1, 1, (.con (V.str ⟨4, 1397178708⟩)))]) <|
 .op (some 47) .bool [44, 46] (.call 43 [(.t 44), (.t 46)]) <|
 .p 48 [47] (.un .not (.t 47)) <|
 .nil))
 (.cond (.tmp 48) (.seq (.ops (.p 2 [] (.mov (.con (V.bool false))) <|
 .nil))
 .ret)
 .skip))
 (.exit 0))))))
 (.ops (.p 49 [28] (.bin .add .none (.t 28) (.i 1)) <|
 .m 28 49 <|
 .nil)))))
def T25_2 (E : List (Nat × Blk)) (D : Den) (W : DrawFn) (K1 : Nat → Nat → H → Ans) (R2 : Nat → Nat → V → Int → Int → H → Ans) (v0b : Nat) (v0o : Nat) (v26 : V) (v27 : Int) (v28 : Int) (σ : H) : Ans :=
 condK (ltF v28 v27) (
 iaddrSK 1 v26 v28 fun b1 o2 =>
 ldK E σ b1 o2 fun u3 =>
 rtStr u3 fun x4 =>
 callK (D 44 [(V.ptr v0b v0o), (V.str x4)] σ) fun u5 s6 =>
 rtBool u5 fun x7 =>
 condK (not x7) (
 R2 v0b v0o v26 v27 (addF .i64 v28 (Int.ofNat 1)) s6) (
 stK 1 v0b (Nat.add (Nat.add v0o 2) 1) (V.int .i64 v28) s6 fun s8 =>
 let s9 := newB s8 (.cells [(V.str x4), (V.str (BS.mk 4 1397178708))]);
 callK (D 43 [(V.ptr v0b v0o), (V.sl (H.next s8) 0 2 (.ex 2))] s9) fun u10 s11 =>
 rtBool u10 fun x12 =>
 condK (not x12) (
 some ((V.bool false), s11)) (
 K1 v0b v0o s11))) (
 K1 v0b v0o σ)
def C25_3 : XC := (.seq (.seq (.ops (.m 63 0 <|
 .p 64 [] (.buildSlice 9 1 [(V.str ⟨0, 0⟩)] [(0, 1, (.con (V.str ⟨3, 4476485⟩)))]) <|
 .op (some 65) .bool [63, 64] (.call 43 [(.t 63), (.t 64)]) <|
 .p 66 [65] (.un .not (.t 65)) <|
 .nil))
 (.cond (.tmp 66) (.seq (.ops (.p 2 [] (.mov (.con (V.bool false))) <|
 .nil))
 .ret)
 .skip))
 (.seq (.ops (.m 68 0 <|
 .op (some 69) (.tup [(.agg [.i, .str, .i]), .bool]) [68] (.call 42 [(.t 68), (.i 0)]) <|
 .m 67 69 <|
 .p 70 [67] (.extract 0 (.t 67)) <|
 .p 71 [67] (.extract 1 (.t 67)) <|
 .m 4 71 <|
 .nil))
 (.seq (.ops (.m 72 4 <|
 .m 2 72 <|
 .nil))
 .ret)))
def T25_3 (E : List (Nat × Blk)) (D : Den) (W : DrawFn) (v0b : Nat) (v0o : Nat) (σ : H) : Ans :=
 let s1 := newB σ (.cells [(V.str (BS.mk 3 4476485))]);
 callK (D 43 [(V.ptr v0b v0o), (V.sl (H.next σ) 0 1 (.ex 1))] s1) fun u2 s3 =>
 rtBool u2 fun x4 =>
 condK (not x4) (
 some ((V.bool false), s3)) (
 callK (D 42 [(V.ptr v0b v0o), (V.int .i64 (Int.ofNat 0))] s3) fun u5 s6 =>
 rtTup u5 fun l7 =>
 rtCons l7 fun x8 l9 =>
 rtAgg x8 fun l10 =>
 rtCons l10 fun x11 l12 =>
 rtInt .i64 x11 fun x13 =>
 rtCons l12 fun x14 l15 =>
 rtStr x14 fun x16 =>
 rtCons l15 fun x17 l18 =>
 rtInt .i64 x17 fun x19 =>
 rtNil l18 (
 rtCons l9 fun x20 l21 =>
 rtBool x20 fun x22 =>
 rtNil l21 (
 some ((V.bool x22), s6))))
def C25_4 : XC := (.seq (.seq (.ops (.m 54 0 <|
 .p 55 [54] (.nilck (.t 54)) <|
 .p 56 [55] (.faddr 0 (.t 55)) <|
 .op (some 57) (.agg [.i, .str, .i]) [56] (.call 45 [(.t 56)]) <|
 .op (some 58) .i [57] (.field 0 none (.t 57)) <|
 .p 59 [58] (.bin .eql .none (.t 58) (.i 1)) <|
 .nil))
 (.cond (.tmp 59) .skip
 (.exit 2)))
 (.block 3 (.seq (.ops (.m 60 0 <|
 .op (some 61) .bool [60] (.call 46 [(.t 60)]) <|
 .p 62 [61] (.un .not (.t 61)) <|
 .nil))
 (.cond (.tmp 62) (.seq (.ops (.p 2 [] (.mov (.con (V.bool false))) <|
 .nil))
 .ret)
 .skip))))
def T25_4 (E : List (Nat × Blk)) (D : Den) (W : DrawFn) (K3 : Nat → Nat → H → Ans) (R4 : Nat → Nat → H → Ans) (v0b : Nat) (v0o : Nat) (σ : H) : Ans :=
 callK (D 45 [(V.ptr v0b v0o)] σ) fun u1 s2 =>
 rtAgg u1 fun l3 =>
 rtCons l3 fun x4 l5 =>
 rtInt .i64 x4 fun x6 =>
 rtCons l5 fun x7 l8 =>
 rtStr x7 fun x9 =>
 rtCons l8 fun x10 l11 =>
 rtInt .i64 x10 fun x12 =>
 rtNil l11 (
 condK (eqF x6 (Int.ofNat 1)) (
 callK (D 46 [(V.ptr v0b v0o)] s2) fun u13 s14 =>
 rtBool u13 fun x15 =>
 condK (not x15) (
 some ((V.bool false), s14)) (
 R4 v0b v0o s14)) (
 K3 v0b v0o s2))
theorem P25_0 (cc1 : XC) (cc2 : XC) (v0b : Nat) (v0o : Nat) (σ : H) :
  denC E D W N (C25_0 cc1 cc2) ⟨[(0, (V.ptr v0b v0o))], [], [], σ⟩ (Fin25 E) (fun _ _ => none) (Fin25 E) =
  T25_0 E D W (fun v0b v0o v26 v27 v28 σ => iterK (fun rec s' => denC E D W N cc2 s' (fun s'' => keepS [(0, .ptr), (26, .any), (27, .i), (28, .i)] [] [] s'' rec) (blkK 0 (fun s' => denC E D W N (.keep [(0, .ptr)] [] [] cc1) s' (Fin25 E) (fun _ _ => none) (Fin25 E)) (fun _ _ => none)) (Fin25 E)) N ⟨[(0, (V.ptr v0b v0o)), (26, v26), (27, (V.int .i64 v27)), (28, (V.int .i64 v28))], [], [], σ⟩) v0b v0o σ := by kernel_rfl
theorem P25_1 (cc3 : XC) (cc4 : XC) (v0b : Nat) (v0o : Nat) (σ : H) :
  denC E D W N (C25_1 cc3 cc4) ⟨[(0, (V.ptr v0b v0o))], [], [], σ⟩ (Fin25 E) (fun _ _ => none) (Fin25 E) =
  T25_1 E D W (fun v0b v0o σ => iterK (fun rec s' => denC E D W N cc4 s' (fun s'' => keepS [(0, .ptr)] [] [] s'' rec) (blkK 2 (fun s' => denC E D W N (.keep [(0, .ptr)] [] [] cc3) s' (Fin25 E) (fun _ _ => none) (Fin25 E)) (fun _ _ => none)) (Fin25 E)) N ⟨[(0, (V.ptr v0b v0o))], [], [], σ⟩) v0b v0o σ := by kernel_rfl
theorem P25_2 (cc1 : XC) (li2 : St → Ans) (v0b : Nat) (v0o : Nat) (v26 : V) (v27 : Int) (v28 : Int) (σ : H) :
  denC E D W N (C25_2 ) ⟨[(0, (V.ptr v0b v0o)), (26, v26), (27, (V.int .i64 v27)), (28, (V.int .i64 v28))], [], [], σ⟩ (fun s'' => keepS [(0, .ptr), (26, .any), (27, .i), (28, .i)] [] [] s'' li2) (blkK 0 (fun s' => denC E D W N (.keep [(0, .ptr)] [] [] cc1) s' (Fin25 E) (fun _ _ => none) (Fin25 E)) (fun _ _ => none)) (Fin25 E) =
  T25_2 E D W (fun v0b v0o σ => denC E D W N cc1 ⟨[(0, (V.ptr v0b v0o))], [], [], σ⟩ (Fin25 E) (fun _ _ => none) (Fin25 E)) (fun v0b v0o v26 v27 v28 σ => li2 ⟨[(0, (V.ptr v0b v0o)), (26, v26), (27, (V.int .i64 v27)), (28, (V.int .i64 v28))], [], [], σ⟩) v0b v0o v26 v27 v28 σ := by kernel_rfl
theorem P25_3 (v0b : Nat) (v0o : Nat) (σ : H) :
  denC E D W N (C25_3 ) ⟨[(0, (V.ptr v0b v0o))], [], [], σ⟩ (Fin25 E) (fun _ _ => none) (Fin25 E) =
  T25_3 E D W  v0b v0o σ := by kernel_rfl
theorem P25_4 (cc3 : XC) (li4 : St → Ans) (v0b : Nat) (v0o : Nat) (σ : H) :
  denC E D W N (C25_4 ) ⟨[(0, (V.ptr v0b v0o))], [], [], σ⟩ (fun s'' => keepS [(0, .ptr)] [] [] s'' li4) (blkK 2 (fun s' => denC E D W N (.keep [(0, .ptr)] [] [] cc3) s' (Fin25 E) (fun _ _ => none) (Fin25 E)) (fun _ _ => none)) (Fin25 E) =
  T25_4 E D W (fun v0b v0o σ => denC E D W N cc3 ⟨[(0, (V.ptr v0b v0o))], [], [], σ⟩ (Fin25 E) (fun _ _ => none) (Fin25 E)) (fun v0b v0o σ => li4 ⟨[(0, (V.ptr v0b v0o))], [], [], σ⟩) v0b v0o σ := by kernel_rfl
def J25_3 (E : List (Nat × Blk)) (D : Den) (W : DrawFn) (N : Nat) : Nat → Nat → H → Ans := T25_3 E D W 
theorem JE25_3 (v0b : Nat) (v0o : Nat) (σ : H) :
  denC E D W N C25_3 ⟨[(0, (V.ptr v0b v0o))], [], [], σ⟩ (Fin25 E) (fun _ _ => none) (Fin25 E) = J25_3 E D W N v0b v0o σ := by
  refine (P25_3 E D W N   v0b v0o σ).trans ?_
  kernel_rfl
def L25_4 (n : Nat) : Nat → Nat → H → Ans :=
  Nat.rec (fun _ _ _ => none) (fun _ ih => T25_4 E D W (J25_3 E D W N ) ih) n
theorem LE25_4 (n : Nat) : ∀ (v0b : Nat) (v0o : Nat) (σ : H),
  iterK (fun rec s' => denC E D W N C25_4 s' (fun s'' => keepS [(0, .ptr)] [] [] s'' rec) (blkK 2 (fun s' => denC E D W N (.keep [(0, .ptr)] [] [] C25_3) s' (Fin25 E) (fun _ _ => none) (Fin25 E)) (fun _ _ => none)) (Fin25 E)) n ⟨[(0, (V.ptr v0b v0o))], [], [], σ⟩ = L25_4 E D W N n v0b v0o σ := by
  induction n with
  | zero => intro v0b v0o σ; rfl
  | succ n ihn =>
    intro v0b v0o σ
    rw [iterK_succ]
    refine (P25_4 E D W N C25_3 (iterK (fun rec s' => denC E D W N C25_4 s' (fun s'' => keepS [(0, .ptr)] [] [] s'' rec) (blkK 2 (fun s' => denC E D W N (.keep [(0, .ptr)] [] [] C25_3) s' (Fin25 E) (fun _ _ => none) (Fin25 E)) (fun _ _ => none)) (Fin25 E)) n) v0b v0o σ).trans ?_
    simp only [ihn, JE25_3]
    kernel_rfl
def J25_1 : Nat → Nat → H → Ans := T25_1 E D W (L25_4 E D W N N)
theorem JE25_1 (v0b : Nat) (v0o : Nat) (σ : H) :
  denC E D W N (C25_1 C25_3 C25_4) ⟨[(0, (V.ptr v0b v0o))], [], [], σ⟩ (Fin25 E) (fun _ _ => none) (Fin25 E) = J25_1 E D W N v0b v0o σ := by
  refine (P25_1 E D W N C25_3 C25_4  v0b v0o σ).trans ?_
  simp only [LE25_4]
  kernel_rfl
def L25_2 (n : Nat) : Nat → Nat → V → Int → Int → H → Ans :=
  Nat.rec (fun _ _ _ _ _ _ => none) (fun _ ih => T25_2 E D W (J25_1 E D W N ) ih) n
theorem LE25_2 (n : Nat) : ∀ (v0b : Nat) (v0o : Nat) (v26 : V) (v27 : Int) (v28 : Int) (σ : H),
  iterK (fun rec s' => denC E D W N C25_2 s' (fun s'' => keepS [(0, .ptr), (26, .any), (27, .i), (28, .i)] [] [] s'' rec) (blkK 0 (fun s' => denC E D W N (.keep [(0, .ptr)] [] [] (C25_1 C25_3 C25_4)) s' (Fin25 E) (fun _ _ => none) (Fin25 E)) (fun _ _ => none)) (Fin25 E)) n ⟨[(0, (V.ptr v0b v0o)), (26, v26), (27, (V.int .i64 v27)), (28, (V.int .i64 v28))], [], [], σ⟩ = L25_2 E D W N n v0b v0o v26 v27 v28 σ := by
  induction n with
  | zero => intro v0b v0o v26 v27 v28 σ; rfl
  | succ n ihn =>
    intro v0b v0o v26 v27 v28 σ
    rw [iterK_succ]
    refine (P25_2 E D W N (C25_1 C25_3 C25_4) (iterK (fun rec s' => denC E D W N C25_2 s' (fun s'' => keepS [(0, .ptr), (26, .any), (27, .i), (28, .i)] [] [] s'' rec) (blkK 0 (fun s' => denC E D W N (.keep [(0, .ptr)] [] [] (C25_1 C25_3 C25_4)) s' (Fin25 E) (fun _ _ => none) (Fin25 E)) (fun _ _ => none)) (Fin25 E)) n) v0b v0o v26 v27 v28 σ).trans ?_
    simp only [ihn, JE25_1]
    kernel_rfl
def J25_0 : Nat → Nat → H → Ans := T25_0 E D W (L25_2 E D W N N)
theorem JE25_0 (v0b : Nat) (v0o : Nat) (σ : H) :
  denC E D W N (C25_0 (C25_1 C25_3 C25_4) C25_2) ⟨[(0, (V.ptr v0b v0o))], [], [], σ⟩ (Fin25 E) (fun _ _ => none) (Fin25 E) = J25_0 E D W N v0b v0o σ := by
  refine (P25_0 E D W N (C25_1 C25_3 C25_4) C25_2  v0b v0o σ).trans ?_
  simp only [LE25_2]
  kernel_rfl
def F25 (args : List V) (σ : H) : Ans :=
 rtCons args fun x1 l2 =>
 rtPtr x1 fun b3 o4 =>
 rtNil l2 (
 J25_0 E D W N b3 o4 σ)
def A25 : XFn := ⟨73, [.ptr], [(.tmp 2)], (C25_0 (C25_1 C25_3 C25_4) C25_2)⟩
theorem FE25 (args : List V) (σ : H) : runX E D W N A25 args σ = F25 E D W N args σ := by
  unfold F25
  simp only [← JE25_0]
  kernel_rfl
theorem AO25 : A25.body.ok = true := by kernel_rfl

def G26_0 : List AOper := [⟨(some 17), .mov (.tmp 5), none⟩, ⟨(some 18), .load (some 5) (.tmp 1), none⟩, ⟨(some 19), .load (some 5) (.tmp 1), none⟩, ⟨(some 20), .mov (.tmp 6), none⟩, ⟨(some 21), .call 48 [(.tmp 19), (.tmp 20)], none⟩, ⟨(some 22), .call 47 [(.tmp 18), (.tmp 21)], none⟩, ⟨(some 23), .buildSlice 41 1 [V.nils] [(0, 1, (.tmp 22))], none⟩, ⟨(some 24), .append 41 1 24 (.tmp 17) (.tmp 23), none⟩, ⟨(some 5), .mov (.tmp 24), none⟩]
def H26_0 : List DP := [⟨0, [5]⟩, ⟨0, [1]⟩, ⟨0, [1]⟩, ⟨0, [6]⟩, ⟨12, [19, 20]⟩, ⟨30, [18, 21]⟩, ⟨62, [22]⟩, ⟨127, [17, 23]⟩, ⟨255, [24]⟩]
def C26_0 (cc1 : XC) (cc2 : XC) : XC := (.seq (.ops (.p 1 [0] (.box 60 (.t 0)) <|
 .p 2 [] (.mov (.con V.nils)) <|
 .p 3 [] (.mov (.i 0)) <|
 .p 4 [] (.mov (.i 0)) <|
 .nil))
 (.seq (.ops (.p 5 [] (.mov (.con V.nils)) <|
 .nil))
 (.seq (.seq (.ops (.p 11 [1] (.faddr 2 (.t 1)) <|
 .p 12 [11] (.load none (.t 11)) <|
 .p 13 [12] (.len false (.t 12)) <|
 .p 14 [] (.mov (.i 0)) <|
 .nil))
 (.block 0 (.loop [(1, .ptr), (5, .any), (13, .i), (14, .i)] [] [] cc2)))
 (.keep [(1, .ptr), (5, .any)] [] [] cc1))))
def C26_1 (cc3 : XC) (cc4 : XC) : XC := (.seq (.seq (.ops (.op (some 27) (.agg [.str, .i, .any, .any, .any]) [1] (.load (some 5) (.t 1)) <|
 .m 28 5 <|
 .op (some 29) (.tup [.i, .i]) [27, 28] (.call 49 [(.t 27), (.t 28)]) <|
 .m 26 29 <|
 .p 30 [26] (.extract 0 (.t 26)) <|
 .p 31 [26] (.extract 1 (.t 26)) <|
 .m 7 30 <|
 .m 8 31 <|
 .nil))
 (.seq (.ops (.m 32 8 <|
 .p 33 [32] (.bin .neq .none (.t 32) (.i 0)) <|
 .nil))
 (.cond (.tmp 33) (.seq (.ops (.m 34 7 <|
 .m 35 8 <|
 .p 2 [] (.mov (.con V.nils)) <|
 .m 3 34 <|
 .m 4 35 <|
 .nil))
 .ret)
 .skip)))
 (.seq (.ops (.p 9 [] (.alloc 41 [V.nils]) <|
 .nil))
 (.seq (.block 2 (.loop [(1, .ptr), (5, .any), (9, .ptr)] [] [] cc4))
 (.keep [(9, .ptr)] [] [] cc3))))
def C26_2 : XC := (.seq (.ops (.p 15 [14, 13] (.bin .lss .none (.t 14) (.t 13)) <|
 .nil))
 (.seq (.cond (.tmp 15) .skip
 (.exit 0))
 (.seq (.block 1 (.seq (.ops (.m 16 14 <|
 .m 6 16 <|
 .nil))
 (.keep [(1, .ptr), (5, .any), (6, .i), (13, .i), (14, .i)] [] [] (.gdraw G26_0 H26_0 [(1, .ptr), (5, .any), (13, .i), (14, .i)]))))
 (.ops (.p 25 [14] (.bin .add .none (.t 14) (.i 1)) <|
 .m 14 25 <|
 .nil)))))
def C26_3 : XC := (.seq (.ops (.p 66 [9] (.load none (.t 9)) <|
 .m 2 66 <|
 .p 3 [] (.mov (.i 0)) <|
 .p 4 [] (.mov (.i 0)) <|
 .nil))
 .ret)
def C26_4 (cc5 : XC) : XC := (.seq (.seq (.ops (.p 36 [9] (.load none (.t 9)) <|
 .p 37 [36] (.len false (.t 36)) <|
 .p 38 [1] (.faddr 2 (.t 1)) <|
 .p 39 [38] (.load none (.t 38)) <|
 .p 40 [39] (.len false (.t 39)) <|
 .p 41 [37, 40] (.bin .lss .none (.t 37) (.t 40)) <|
 .nil))
 (.cond (.tmp 41) .skip
 (.exit 2)))
 (.block 3 (.seq (.ops (.p 42 [1] (.faddr 2 (.t 1)) <|
 .p 43 [42] (.load none (.t 42)) <|
 .p 44 [43] (.len false (.t 43)) <|
 .p 45 [] (.mov (.i 0)) <|
 .nil))
 (.block 4 (.loop [(1, .ptr), (5, .any), (9, .ptr), (44, .i), (45, .i)] [] [] cc5)))))
def C26_5 : XC := (.seq (.ops (.p 46 [45, 44] (.bin .lss .none (.t 45) (.t 44)) <|
 .nil))
 (.seq (.cond (.tmp 46) .skip
 (.exit 4))
 (.seq (.block 5 (.seq (.ops (.m 47 45 <|
 .m 10 47 <|
 .nil))
 (.seq (.ops (.p 48 [9] (.load none (.t 9)) <|
 .m 49 10 <|
 .op (some 50) .bool [48, 49] (.call 50 [(.t 48), (.t 49)]) <|
 .p 51 [50] (.un .not (.t 50)) <|
 .m 52 51 <|
 .grp 52 true (.p 53 [5, 52] (.mov (.t 5)) <|
 .p 54 [10, 52] (.mov (.t 10)) <|
 .p 55 [53, 54, 52] (.iaddrS 1 (.t 53) (.t 54)) <|
 .p 56 [55, 52] (.load none (.t 55)) <|
 .p 57 [9, 52] (.mkfn 52 [] [(.t 9)]) <|
 .op (some 58) .bool [56, 57, 52] (.call 51 [(.t 56), (.t 57)]) <|
 .p 59 [58, 52] (.un .not (.t 58)) <|
 .nil) 60 [52, 59] (.t 52) (.t 59) (.con (V.bool false)) <|
 .nil))
 (.cond (.tmp 60) (.seq (.ops (.p 61 [9] (.load none (.t 9)) <|
 .m 62 10 <|
 .p 63 [62] (.buildSlice 3 1 [(V.int .i64 (Int.ofNat 0))] [(0, 1, (.t 62))]) <|
 .op (some 64) .one [61, 63] (.append 3 1 8 (.t 61) (.t 63)) <|
 .op none .any [9, 64] (.store 1 (.t 9) (.t 64)) <|
 .nil))
 (.exit 4))
 .skip))))
 (.ops (.p 65 [45] (.bin .add .none (.t 45) (.i 1)) <|
 .m 45 65 <|
 .nil)))))
def A26 : XFn := ⟨67, [(.agg [.str, .i, .any, .any, .any])], [(.tmp 2), (.tmp 3), (.tmp 4)], (C26_0 (C26_1 C26_3 (C26_4 C26_5)) C26_2)⟩
def C27_0 : XC := (.seq (.ops (.p 2 [] (.mov (.con V.nils)) <|
 .nil))
 (.seq (.seq (.ops (.m 3 0 <|
 .p 4 [3] (.bin .eql .slice (.t 3) (.con V.nils)) <|
 .nil))
 (.cond (.tmp 4) (.seq (.ops (.p 2 [] (.mov (.con V.nils)) <|
 .nil))
 .ret)
 .skip))
 (.seq (.ops (.p 5 [] (.buildSlice 9 0 [] []) <|
 .m 6 0 <|
 .op (some 7) .one [5, 6] (.append 9 1 16 (.t 5) (.t 6)) <|
 .m 2 7 <|
 .nil))
 .ret)))
def A27 : XFn := ⟨8, [.any], [(.tmp 2)], C27_0⟩
def C28_0 (cc1 : XC) : XC := (.seq (.ops (.p 6 [] (.mov (.i 0)) <|
 .p 7 [] (.mov (.i 0)) <|
 .nil))
 (.seq (.seq (.ops (.m 12 1 <|
 .p 13 [12] (.bin .lss .none (.t 12) (.i 0)) <|
 .m 14 13 <|
 .grp 14 false (.p 15 [1, 14] (.mov (.t 1)) <|
 .p 16 [0, 14] (.mov (.t 0)) <|
 .p 17 [16, 14] (.nilck (.t 16)) <|
 .p 18 [17, 14] (.faddr 1 (.t 17)) <|
 .p 19 [18, 14] (.faddr 4 (.t 18)) <|
 .p 20 [19, 14] (.load none (.t 19)) <|
 .p 21 [20, 14] (.len false (.t 20)) <|
 .p 22 [15, 21, 14] (.bin .geq .none (.t 15) (.t 21)) <|
 .nil) 23 [14, 22] (.t 14) (.con (V.bool true)) (.t 22) <|
 .nil))
 (.cond (.tmp 23) (.seq (.ops (.p 6 [] (.mov (.i 0)) <|
 .p 7 [] (.mov (.i 9)) <|
 .nil))
 .ret)
 .skip))
 (.seq (.ops (.m 24 0 <|
 .p 25 [24] (.nilck (.t 24)) <|
 .p 26 [25] (.faddr 1 (.t 25)) <|
 .p 27 [26] (.faddr 4 (.t 26)) <|
 .p 28 [27] (.load none (.t 27)) <|
 .m 29 1 <|
 .p 30 [28, 29] (.iaddrS 16 (.t 28) (.t 29)) <|
 .op (some 31) (.agg [.i, .str, .bool, .i, .i, .bool, .bool, .bool, .bool, .i, .i, .any, .any, .i, .bool, .i]) [30] (.load (some 16) (.t 30)) <|
 .pal 8 [] 136 [(V.int .i64 (Int.ofNat 0)), (V.str ⟨0, 0⟩), (V.bool false), (V.int .i64 (Int.ofNat 0)), (V.int .i64 (Int.ofNat 0)), (V.bool false), (V.bool false), (V.bool false), (V.bool false), (V.int .i64 (Int.ofNat 0)), (V.int .i64 (Int.ofNat 0)), V.nils, V.nils, (V.int .i64 (Int.ofNat 0)), (V.bool false), (V.int .i64 (Int.ofNat 0))] <|
 .op none (.agg [.i, .str, .bool, .i, .i, .bool, .bool, .bool, .bool, .i, .i, .any, .any, .i, .bool, .i]) [8, 31] (.store 16 (.t 8) (.t 31)) <|
 .nil))
 (.seq (.ops (.p 9 [] (.mov (.i 0)) <|
 .nil))
 (.seq (.ops (.p 10 [] (.mov (.i 0)) <|
 .nil))
 (.seq (.seq (.ops (.p 32 [8] (.faddr 0 (.t 8)) <|
 .op (some 33) .i [32] (.load none (.t 32)) <|
 .p 34 [33] (.bin .eql .none (.t 33) (.i 11)) <|
 .nil))
 (.cond (.tmp 34) (.seq (.draw (.m 35 0 <|
 .p 36 [35] (.nilck (.t 35)) <|
 .p 37 [36] (.faddr 1 (.t 36)) <|
 .op (some 38) (.agg [.str, .i, .any, .any, .any]) [37] (.load (some 5) (.t 37)) <|
 .p 39 [8] (.faddr 1 (.t 8)) <|
 .op (some 40) .str [39] (.load none (.t 39)) <|
 .op (some 41) .i [38, 40] (.call 53 [(.t 38), (.t 40)]) <|
 .m 11 41 <|
 .nil) [0, 1, 3, 7, 0, 16, 63, 127])
 (.seq (.seq (.ops (.m 42 11 <|
 .p 43 [42] (.bin .lss .none (.t 42) (.i 0)) <|
 .m 44 43 <|
 .grp 44 false (.p 45 [11, 44] (.mov (.t 11)) <|
 .p 46 [0, 44] (.mov (.t 0)) <|
 .p 47 [46, 44] (.nilck (.t 46)) <|
 .p 48 [47, 44] (.faddr 1 (.t 47)) <|
 .p 49 [48, 44] (.faddr 3 (.t 48)) <|
 .p 50 [49, 44] (.load none (.t 49)) <|
 .p 51 [50, 44] (.len false (.t 50)) <|
 .p 52 [45, 51, 44] (.bin .geq .none (.t 45) (.t 51)) <|
 .nil) 53 [44, 52] (.t 44) (.con (V.bool true)) (.t 52) <|
 .nil))
 (.cond (.tmp 53) (.seq (.ops (.p 6 [] (.mov (.i 0)) <|
 .p 7 [] (.mov (.i 9)) <|
 .nil))
 .ret)
 .skip))
 (.ops (.m 55 0 <|
 .m 56 0 <|
 .p 57 [56] (.nilck (.t 56)) <|
 .p 58 [57] (.faddr 1 (.t 57)) <|
 .p 59 [58] (.faddr 3 (.t 58)) <|
 .p 60 [59] (.load none (.t 59)) <|
 .m 61 11 <|
 .p 62 [60, 61] (.iaddrS 1 (.t 60) (.t 61)) <|
 .op (some 63) .i [62] (.load none (.t 62)) <|
 .m 64 2 <|
 .op (some 65) (.tup [.i, .i]) [55, 63, 64] (.call 28 [(.t 55), (.t 63), (.t 64)]) <|
 .m 54 65 <|
 .p 66 [54] (.extract 0 (.t 54)) <|
 .p 67 [54] (.extract 1 (.t 54)) <|
 .m 9 66 <|
 .m 10 67 <|
 .nil))))
 (.ops (.m 69 0 <|
 .op (some 70) (.agg [.i, .str, .bool, .i, .i, .bool, .bool, .bool, .bool, .i, .i, .any, .any, .i, .bool, .i]) [8] (.load (some 16) (.t 8)) <|
 .m 71 2 <|
 .op (some 72) (.tup [.i, .i]) [69, 70, 71] (.call 54 [(.t 69), (.t 70), (.t 71)]) <|
 .m 68 72 <|
 .p 73 [68] (.extract 0 (.t 68)) <|
 .p 74 [68] (.extract 1 (.t 68)) <|
 .m 9 73 <|
 .m 10 74 <|
 .nil))))
 (.keep [(0, .ptr), (9, .i), (10, .i)] [8] [(8, [.i, .str, .bool, .i, .i, .bool, .bool, .bool, .bool, .i, .i, .any, .any, .i, .bool, .i])] cc1)))))))
def C28_1 : XC := (.seq (.seq (.ops (.m 75 10 <|
 .p 76 [75] (.bin .neq .none (.t 75) (.i 0)) <|
 .nil))
 (.cond (.tmp 76) (.seq (.ops (.m 77 10 <|
 .p 6 [] (.mov (.i 0)) <|
 .m 7 77 <|
 .nil))
 .ret)
 .skip))
 (.seq (.ops (.m 78 9 <|
 .m 79 0 <|
 .m 80 9 <|
 .p 81 [8] (.faddr 2 (.t 8)) <|
 .op (some 82) (.agg [.bool, .i, .i]) [81] (.load (some 3) (.t 81)) <|
 .op (some 83) .i [79, 80, 82] (.call 55 [(.t 79), (.t 80), (.t 82)]) <|
 .m 6 78 <|
 .m 7 83 <|
 .nil))
 .ret))
def A28 : XFn := ⟨84, [.ptr, .i, .i], [(.tmp 6), (.tmp 7)], (C28_0 C28_1)⟩
def C29_0 : XC := (.seq (.ops (.p 2 [] (.mov (.con (V.str ⟨0, 0⟩))) <|
 .nil))
 (.seq (.seq (.ops (.m 3 0 <|
 .nil))
 (.block 0 (.seq (.ops (.p 5 [3] (.bin .eql .none (.t 3) (.i 0)) <|
 .m 4 5 <|
 .nil))
 (.cond (.tmp 4) (.seq (.ops (.p 2 [] (.mov (.con (V.str ⟨14, 655635097218688137868315485820997⟩))) <|
 .nil))
 .ret)
 (.seq (.ops (.p 7 [3] (.bin .eql .none (.t 3) (.i 1)) <|
 .m 6 7 <|
 .nil))
 (.cond (.tmp 6) (.seq (.ops (.p 2 [] (.mov (.con (V.str ⟨14, 655635097218688137868315485818185⟩))) <|
 .nil))
 .ret)
 (.seq (.ops (.p 9 [3] (.bin .eql .none (.t 3) (.i 2)) <|
 .m 8 9 <|
 .nil))
 (.cond (.tmp 8) (.seq (.ops (.p 2 [] (.mov (.con (V.str ⟨15, 167842584887983849704415794096788801⟩))) <|
 .nil))
 .ret)
 .skip))))))))
 (.seq (.ops (.p 2 [] (.mov (.con (V.str ⟨0, 0⟩))) <|
 .nil))
 .ret)))
def A29 : XFn := ⟨10, [.i], [(.tmp 2)], C29_0⟩
def C30_0 (cc1 : XC) (cc2 : XC) : XC := (.seq (.seq (.ops (.m 6 1 <|
 .p 7 [6] (.len false (.t 6)) <|
 .p 8 [] (.mov (.i 0)) <|
 .nil))
 (.block 0 (.loop [(0, .ptr), (6, .any), (7, .i), (8, .i)] [] [] cc2)))
 (.keep [(0, .ptr)] [] [] cc1))
def C30_1 : XC := (.ops (.m 22 0 <|
 .m 23 0 <|
 .p 24 [23] (.nilck (.t 23)) <|
 .p 25 [24] (.faddr 1 (.t 24)) <|
 .op (some 26) .bool [25] (.load none (.t 25)) <|
 .m 27 26 <|
 .grp 27 false (.p 28 [0, 27] (.mov (.t 0)) <|
 .p 29 [28, 27] (.nilck (.t 28)) <|
 .p 30 [29, 27] (.faddr 0 (.t 29)) <|
 .p 31 [30, 27] (.load none (.t 30)) <|
 .p 32 [31, 27] (.len false (.t 31)) <|
 .p 33 [32, 27] (.bin .gtr .none (.t 32) (.i 32000)) <|
 .nil) 34 [27, 33] (.t 27) (.con (V.bool true)) (.t 33) <|
 .p 35 [22] (.nilck (.t 22)) <|
 .p 36 [35] (.faddr 1 (.t 35)) <|
 .op none .any [36, 34] (.store 1 (.t 36) (.t 34)) <|
 .nil))
def C30_2 : XC := (.seq (.ops (.p 9 [8, 7] (.bin .lss .none (.t 8) (.t 7)) <|
 .nil))
 (.seq (.cond (.tmp 9) .skip
 (.exit 0))
 (.seq (.block 1 (.seq (.ops (.p 10 [6, 8] (.iaddrS 1 (.t 6) (.t 8)) <|
 .op (some 11) .str [10] (.load none (.t 10)) <|
 .m 5 11 <|
 .nil))
 (.ops (.m 12 0 <|
 .m 13 0 <|
 .p 14 [13] (.nilck (.t 13)) <|
 .p 15 [14] (.faddr 0 (.t 14)) <|
 .p 16 [15] (.load none (.t 15)) <|
 .m 17 5 <|
 .op (some 18) .one [16, 17] (.append 5 1 1 (.t 16) (.t 17)) <|
 .p 19 [12] (.nilck (.t 12)) <|
 .p 20 [19] (.faddr 0 (.t 19)) <|
 .op none .any [20, 18] (.store 1 (.t 20) (.t 18)) <|
 .nil))))
 (.ops (.p 21 [8] (.bin .add .none (.t 8) (.i 1)) <|
 .m 8 21 <|
 .nil)))))
def A30 : XFn := ⟨37, [.ptr, .any], [], (C30_0 C30_1 C30_2)⟩
def G31_0 : List AOper := [⟨(some 142), .mov (.tmp 0), none⟩, ⟨(some 143), .nilck (.tmp 142), none⟩, ⟨(some 144), .faddr 0 (.tmp 143), none⟩, ⟨(some 145), .faddr 1 (.tmp 6), none⟩, ⟨(some 146), .load none (.tmp 145), none⟩, ⟨(some 147), .buildSlice 9 1 [(V.str ⟨0, 0⟩)] [(0, 1, (.tmp 146))], none⟩, ⟨(some 148), .call 30 [(.tmp 144), (.tmp 147)], none⟩]
def H31_0 : List DP := [⟨0, [0]⟩, ⟨1, [142]⟩, ⟨3, [143]⟩, ⟨0, [6]⟩, ⟨8, [145]⟩, ⟨24, [146]⟩, ⟨63, [144, 147]⟩]
def C31_0 : XC := (.seq (.seq (.ops (.m 7 0 <|
 .p 8 [7] (.nilck (.t 7)) <|
 .p 9 [8] (.faddr 0 (.t 8)) <|
 .p 10 [9] (.faddr 1 (.t 9)) <|
 .op (some 11) .bool [10] (.load none (.t 10)) <|
 .m 12 11 <|
 .grp 12 false (.p 13 [1, 12] (.mov (.t 1)) <|
 .p 14 [13, 12] (.bin .lss .none (.t 13) (.i 0)) <|
 .nil) 15 [12, 14] (.t 12) (.con (V.bool true)) (.t 14) <|
 .m 16 15 <|
 .grp 16 false (.p 17 [1, 16] (.mov (.t 1)) <|
 .p 18 [0, 16] (.mov (.t 0)) <|
 .p 19 [18, 16] (.nilck (.t 18)) <|
 .p 20 [19, 16] (.faddr 2 (.t 19)) <|
 .p 21 [20, 16] (.faddr 4 (.t 20)) <|
 .p 22 [21, 16] (.load none (.t 21)) <|
 .p 23 [22, 16] (.len false (.t 22)) <|
 .p 24 [17, 23, 16] (.bin .geq .none (.t 17) (.t 23)) <|
 .nil) 25 [16, 24] (.t 16) (.con (V.bool true)) (.t 24) <|
 .nil))
 (.cond (.tmp 25) (.seq (.ops (.m 26 0 <|
 .p 27 [26] (.nilck (.t 26)) <|
 .p 28 [27] (.faddr 0 (.t 27)) <|
 .p 29 [28] (.faddr 1 (.t 28)) <|
 .op none .any [29] (.store 1 (.t 29) (.con (V.bool true))) <|
 .nil))
 .ret)
 .skip))
 (.seq (.ops (.m 30 0 <|
 .p 31 [30] (.nilck (.t 30)) <|
 .p 32 [31] (.faddr 2 (.t 31)) <|
 .p 33 [32] (.faddr 4 (.t 32)) <|
 .p 34 [33] (.load none (.t 33)) <|
 .m 35 1 <|
 .p 36 [34, 35] (.iaddrS 16 (.t 34) (.t 35)) <|
 .op (some 37) (.agg [.i, .str, .bool, .i, .i, .bool, .bool, .bool, .bool, .i, .i, .any, .any, .i, .bool, .i]) [36] (.load (some 16) (.t 36)) <|
 .p 6 [] (.alloc 136 [(V.int .i64 (Int.ofNat 0)), (V.str ⟨0, 0⟩), (V.bool false), (V.int .i64 (Int.ofNat 0)), (V.int .i64 (Int.ofNat 0)), (V.bool false), (V.bool false), (V.bool false), (V.bool false), (V.int .i64 (Int.ofNat 0)), (V.int .i64 (Int.ofNat 0)), V.nils, V.nils, (V.int .i64 (Int.ofNat 0)), (V.bool false), (V.int .i64 (Int.ofNat 0))]) <|
 .op none (.agg [.i, .str, .bool, .i, .i, .bool, .bool, .bool, .bool, .i, .i, .any, .any, .i, .bool, .i]) [6, 37] (.store 16 (.t 6) (.t 37)) <|
 .nil))
 (.seq (.ops (.m 38 0 <|
 .p 39 [6] (.faddr 2 (.t 6)) <|
 .op (some 40) (.agg [.bool, .i, .i]) [39] (.load (some 3) (.t 39)) <|
 .op (some 41) (.tup []) [38, 40] (.call 56 [(.t 38), (.t 40)]) <|
 .nil))
 (.seq (.ops (.p 42 [6] (.faddr 0 (.t 6)) <|
 .op (some 43) .i [42] (.load none (.t 42)) <|
 .nil))
 (.block 0 (.seq (.ops (.p 49 [43] (.bin .eql .none (.t 43) (.i 1)) <|
 .m 48 49 <|
 .nil))
 (.cond (.tmp 48) (.ops (.m 50 0 <|
 .p 51 [50] (.nilck (.t 50)) <|
 .p 52 [51] (.faddr 0 (.t 51)) <|
 .p 53 [] (.buildSlice 9 1 [(V.str ⟨0, 0⟩)] [(0, 1, (.con (V.str ⟨7, 22026814072246082⟩)))]) <|
 .op (some 54) (.tup []) [52, 53] (.call 30 [(.t 52), (.t 53)]) <|
 .nil))
 (.seq (.ops (.p 56 [43] (.bin .eql .none (.t 43) (.i 4)) <|
 .m 55 56 <|
 .nil))
 (.cond (.tmp 55) (.ops (.m 57 0 <|
 .p 58 [57] (.nilck (.t 57)) <|
 .p 59 [58] (.faddr 0 (.t 58)) <|
 .p 60 [] (.buildSlice 9 1 [(V.str ⟨0, 0⟩)] [(0, 1, (.con (V.str ⟨4, 1280070990⟩)))]) <|
 .op (some 61) (.tup []) [59, 60] (.call 30 [(.t 59), (.t 60)]) <|
 .nil))
 (.seq (.ops (.p 63 [43] (.bin .eql .none (.t 43) (.i 2)) <|
 .m 62 63 <|
 .nil))
 (.cond (.tmp 62) (.seq (.ops (.m 64 0 <|
 .p 65 [64] (.nilck (.t 64)) <|
 .p 66 [65] (.faddr 0 (.t 65)) <|
 .p 67 [] (.buildSlice 9 1 [(V.str ⟨0, 0⟩)] [(0, 1, (.con (V.str ⟨7, 23157120498421321⟩)))]) <|
 .op (some 68) (.tup []) [66, 67] (.call 30 [(.t 66), (.t 67)]) <|
 .nil))
 (.ops (.m 69 0 <|
 .p 70 [6] (.faddr 5 (.t 6)) <|
 .op (some 71) (.agg [.bool, .bool, .bool, .bool, .i, .i]) [70] (.load (some 6) (.t 70)) <|
 .op (some 72) (.tup []) [69, 71] (.call 57 [(.t 69), (.t 71), (.con (V.str ⟨2, 10272⟩)), (.con (V.str ⟨1, 41⟩))]) <|
 .nil)))
 (.seq (.ops (.p 74 [43] (.bin .eql .none (.t 43) (.i 5)) <|
 .m 73 74 <|
 .nil))
 (.cond (.tmp 73) (.seq (.ops (.m 75 0 <|
 .p 76 [75] (.nilck (.t 75)) <|
 .p 77 [76] (.faddr 0 (.t 76)) <|
 .p 78 [] (.buildSlice 9 1 [(V.str ⟨0, 0⟩)] [(0, 1, (.con (V.str ⟨12, 22068078162707940351935791951⟩)))]) <|
 .op (some 79) (.tup []) [77, 78] (.call 30 [(.t 77), (.t 78)]) <|
 .nil))
 (.ops (.m 80 0 <|
 .p 81 [6] (.faddr 5 (.t 6)) <|
 .op (some 82) (.agg [.bool, .bool, .bool, .bool, .i, .i]) [81] (.load (some 6) (.t 81)) <|
 .op (some 83) (.tup []) [80, 82] (.call 57 [(.t 80), (.t 82), (.con (V.str ⟨8, 2891387214851418144⟩)), (.con (V.str ⟨2, 10537⟩))]) <|
 .nil)))
 (.seq (.ops (.p 85 [43] (.bin .eql .none (.t 43) (.i 6)) <|
 .m 84 85 <|
 .nil))
 (.cond (.tmp 84) (.seq (.ops (.m 86 0 <|
 .p 87 [86] (.nilck (.t 86)) <|
 .p 88 [87] (.faddr 0 (.t 87)) <|
 .p 89 [] (.buildSlice 9 1 [(V.str ⟨0, 0⟩)] [(0, 1, (.con (V.str ⟨10, 488440487847103610377301⟩)))]) <|
 .op (some 90) (.tup []) [88, 89] (.call 30 [(.t 88), (.t 89)]) <|
 .nil))
 (.ops (.m 91 0 <|
 .p 92 [6] (.faddr 5 (.t 6)) <|
 .op (some 93) (.agg [.bool, .bool, .bool, .bool, .i, .i]) [92] (.load (some 6) (.t 92)) <|
 .op (some 94) (.tup []) [91, 93] (.call 57 [(.t 91), (.t 93), (.con (V.str ⟨8, 2891387214851418144⟩)), (.con (V.str ⟨2, 10537⟩))]) <|
 .nil)))
 (.seq (.ops (.p 96 [43] (.bin .eql .none (.t 43) (.i 3)) <|
 .m 95 96 <|
 .nil))
 (.cond (.tmp 95) (.ops (.m 97 0 <|
 .op (some 98) (.agg [.i, .str, .bool, .i, .i, .bool, .bool, .bool, .bool, .i, .i, .any, .any, .i, .bool, .i]) [6] (.load (some 16) (.t 6)) <|
 .op (some 99) (.tup []) [97, 98] (.call 58 [(.t 97), (.t 98)]) <|
 .nil))
 (.seq (.ops (.p 101 [43] (.bin .eql .none (.t 43) (.i 7)) <|
 .m 100 101 <|
 .nil))
 (.cond (.tmp 100) (.ops (.m 102 0 <|
 .op (some 103) (.agg [.i, .str, .bool, .i, .i, .bool, .bool, .bool, .bool, .i, .i, .any, .any, .i, .bool, .i]) [6] (.load (some 16) (.t 6)) <|
 .m 104 2 <|
 .op (some 105) (.tup []) [102, 103, 104] (.call 59 [(.t 102), (.con (V.str ⟨8, 4990918871747741011⟩)), (.t 103), (.t 104)]) <|
 .nil))
 (.seq (.ops (.p 107 [43] (.bin .eql .none (.t 43) (.i 8)) <|
 .m 106 107 <|
 .nil))
 (.cond (.tmp 106) (.ops (.m 108 0 <|
 .op (some 109) (.agg [.i, .str, .bool, .i, .i, .bool, .bool, .bool, .bool, .i, .i, .any, .any, .i, .bool, .i]) [6] (.load (some 16) (.t 6)) <|
 .m 110 2 <|
 .op (some 111) (.tup []) [108, 109, 110] (.call 59 [(.t 108), (.con (V.str ⟨3, 5522771⟩)), (.t 109), (.t 110)]) <|
 .nil))
 (.seq (.ops (.p 113 [43] (.bin .eql .none (.t 43) (.i 9)) <|
 .m 112 113 <|
 .nil))
 (.cond (.tmp 112) (.ops (.m 114 0 <|
 .op (some 115) (.agg [.i, .str, .bool, .i, .i, .bool, .bool, .bool, .bool, .i, .i, .any, .any, .i, .bool, .i]) [6] (.load (some 16) (.t 6)) <|
 .m 116 2 <|
 .op (some 117) (.tup []) [114, 115, 116] (.call 59 [(.t 114), (.con (V.str ⟨6, 76155295057987⟩)), (.t 115), (.t 116)]) <|
 .nil))
 (.seq (.ops (.p 119 [43] (.bin .eql .none (.t 43) (.i 10)) <|
 .m 118 119 <|
 .nil))
 (.cond (.tmp 118) (.seq (.ops (.m 120 0 <|
 .p 121 [120] (.nilck (.t 120)) <|
 .p 122 [121] (.faddr 0 (.t 121)) <|
 .p 123 [] (.buildSlice 9 1 [(V.str ⟨0, 0⟩)] [(0, 1, (.con (V.str ⟨9, 595286729230453392723⟩)))]) <|
 .op (some 124) (.tup []) [122, 123] (.call 30 [(.t 122), (.t 123)]) <|
 .nil))
 (.seq (.ops (.m 125 0 <|
 .p 126 [6] (.faddr 5 (.t 6)) <|
 .op (some 127) (.agg [.bool, .bool, .bool, .bool, .i, .i]) [126] (.load (some 6) (.t 126)) <|
 .op (some 128) (.tup []) [125, 127] (.call 57 [(.t 125), (.t 127), (.con (V.str ⟨7, 11294481308013352⟩)), (.con (V.str ⟨3, 2107689⟩))]) <|
 .nil))
 (.seq (.ops (.m 129 0 <|
 .p 130 [129] (.nilck (.t 129)) <|
 .p 131 [130] (.faddr 0 (.t 130)) <|
 .p 132 [] (.buildSlice 9 1 [(V.str ⟨0, 0⟩)] [(0, 1, (.con (V.str ⟨3, 2115151⟩)))]) <|
 .op (some 133) (.tup []) [131, 132] (.call 30 [(.t 131), (.t 132)]) <|
 .nil))
 (.ops (.m 134 0 <|
 .p 135 [6] (.faddr 15 (.t 6)) <|
 .op (some 136) .i [135] (.load none (.t 135)) <|
 .m 137 2 <|
 .p 138 [137] (.bin .add .none (.t 137) (.i 1)) <|
 .op (some 139) (.tup []) [134, 136, 138] (.call 31 [(.t 134), (.t 136), (.t 138)]) <|
 .nil)))))
 (.seq (.ops (.p 141 [43] (.bin .eql .none (.t 43) (.i 11)) <|
 .m 140 141 <|
 .nil))
 (.cond (.tmp 140) (.keep [(0, .ptr), (6, .ptr)] [] [] (.gdraw G31_0 H31_0 []))
 (.ops (.m 44 0 <|
 .p 45 [44] (.nilck (.t 44)) <|
 .p 46 [45] (.faddr 0 (.t 45)) <|
 .p 47 [46] (.faddr 1 (.t 46)) <|
 .op none .any [47] (.store 1 (.t 47) (.con (V.bool true))) <|
 .nil)))))))))))))))))))))))))))))
def A31 : XFn := ⟨149, [.ptr, .i, .i], [], C31_0⟩
def C32_0 (cc1 : XC) (cc2 : XC) : XC := (.seq (.ops (.p 4 [] (.mov (.i 0)) <|
 .nil))
 (.seq (.seq (.ops (.m 6 0 <|
 .p 7 [6] (.len false (.t 6)) <|
 .p 8 [] (.mov (.i 0)) <|
 .nil))
 (.block 0 (.loop [(0, .any), (1, .any), (7, .i), (8, .i)] [] [] cc2)))
 (.keep [] [] [] cc1)))
def C32_1 : XC := (.seq (.ops (.p 4 [] (.mov (.con (V.int .i64 (Int.negSucc 0)))) <|
 .nil))
 .ret)
def C32_2 : XC := (.seq (.ops (.p 9 [8, 7] (.bin .lss .none (.t 8) (.t 7)) <|
 .nil))
 (.seq (.cond (.tmp 9) .skip
 (.exit 0))
 (.seq (.block 1 (.seq (.ops (.m 10 8 <|
 .m 5 10 <|
 .nil))
 (.seq (.ops (.m 11 1 <|
 .m 12 0 <|
 .m 13 5 <|
 .p 14 [12, 13] (.iaddrS 6 (.t 12) (.t 13)) <|
 .op (some 15) (.agg [.i, .str, .str, .any, .any, .any]) [14] (.load (some 6) (.t 14)) <|
 .op (some 16) .bool [11, 15] (.callv (.t 11) [(.t 15)]) <|
 .nil))
 (.cond (.tmp 16) (.seq (.ops (.m 17 5 <|
 .m 4 17 <|
 .nil))
 .ret)
 .skip))))
 (.ops (.p 18 [8] (.bin .add .none (.t 8) (.i 1)) <|
 .m 8 18 <|
 .nil)))))
def A32 : XFn := ⟨19, [.any, .any], [(.tmp 4)], (C32_0 C32_1 C32_2)⟩
def C35_0 (cc1 : XC) (cc2 : XC) : XC := (.seq (.ops (.p 6 [] (.mov (.i 0)) <|
 .p 7 [] (.mov (.con (V.bool false))) <|
 .nil))
 (.seq (.ops (.m 12 0 <|
 .p 13 [12] (.len false (.t 12)) <|
 .m 8 13 <|
 .nil))
 (.seq (.ops (.m 14 8 <|
 .p 9 [] (.mov (.i 0)) <|
 .m 10 14 <|
 .nil))
 (.seq (.block 0 (.loop [(0, .any), (1, .str), (2, .any), (8, .i), (9, .i), (10, .i)] [] [] cc2))
 (.keep [(0, .any), (1, .str), (2, .any), (8, .i), (9, .i)] [] [] cc1)))))
def C35_1 : XC := (.seq (.ops (.m 35 9 <|
 .m 36 9 <|
 .m 37 8 <|
 .p 38 [36, 37] (.bin .lss .none (.t 36) (.t 37)) <|
 .m 39 38 <|
 .grp 39 true (.p 40 [2, 39] (.mov (.t 2)) <|
 .p 41 [0, 39] (.mov (.t 0)) <|
 .p 42 [9, 39] (.mov (.t 9)) <|
 .p 43 [41, 42, 39] (.iaddrS 2 (.t 41) (.t 42)) <|
 .op (some 44) (.agg [.str, .any]) [43, 39] (.load (some 2) (.t 43)) <|
 .p 45 [1, 39] (.mov (.t 1)) <|
 .op (some 46) .i [40, 44, 45, 39] (.callv (.t 40) [(.t 44), (.t 45)]) <|
 .p 47 [46, 39] (.bin .eql .none (.t 46) (.i 0)) <|
 .nil) 48 [39, 47] (.t 39) (.t 47) (.con (V.bool false)) <|
 .m 6 35 <|
 .m 7 48 <|
 .nil))
 .ret)
def C35_2 : XC := (.seq (.seq (.ops (.m 15 9 <|
 .m 16 10 <|
 .p 17 [15, 16] (.bin .lss .none (.t 15) (.t 16)) <|
 .nil))
 (.cond (.tmp 17) .skip
 (.exit 0)))
 (.block 1 (.seq (.ops (.m 18 9 <|
 .m 19 10 <|
 .p 20 [18, 19] (.bin .add .none (.t 18) (.t 19)) <|
 .p 21 [20] (.conv (.toInt .u64) (.t 20)) <|
 .p 22 [21] (.bin .shr .none (.t 21) (.con (V.int .u64 (Int.ofNat 1)))) <|
 .p 23 [22] (.conv (.toInt .i64) (.t 22)) <|
 .m 11 23 <|
 .nil))
 (.seq (.ops (.m 24 2 <|
 .m 25 0 <|
 .m 26 11 <|
 .p 27 [25, 26] (.iaddrS 2 (.t 25) (.t 26)) <|
 .op (some 28) (.agg [.str, .any]) [27] (.load (some 2) (.t 27)) <|
 .m 29 1 <|
 .op (some 30) .i [24, 28, 29] (.callv (.t 24) [(.t 28), (.t 29)]) <|
 .p 31 [30] (.bin .lss .none (.t 30) (.i 0)) <|
 .nil))
 (.cond (.tmp 31) (.ops (.m 32 11 <|
 .p 33 [32] (.bin .add .none (.t 32) (.i 1)) <|
 .m 9 33 <|
 .nil))
 (.ops (.m 34 11 <|
 .m 10 34 <|
 .nil)))))))
def A35 : XFn := ⟨49, [.any, .str, .any], [(.tmp 6), (.tmp 7)], (C35_0 C35_1 C35_2)⟩
def C36_0 : XC := (.seq (.ops (.p 2 [0] (.box 57 (.t 0)) <|
 .p 4 [] (.mov (.i 0)) <|
 .nil))
 (.seq (.ops (.p 5 [2] (.faddr 0 (.t 2)) <|
 .op (some 6) .str [5] (.load none (.t 5)) <|
 .m 7 1 <|
 .op (some 8) .i [6, 7] (.call 37 [(.t 6), (.t 7)]) <|
 .m 4 8 <|
 .nil))
 .ret))
def A36 : XFn := ⟨9, [(.agg [.str, .any]), .str], [(.tmp 4)], C36_0⟩
def C37_0 : XC := (.seq (.ops (.p 4 [] (.mov (.i 0)) <|
 .nil))
 (.seq (.ops (.m 7 0 <|
 .op (some 8) .bool [7] (.call 62 [(.t 7)]) <|
 .m 5 8 <|
 .nil))
 (.seq (.ops (.m 9 1 <|
 .op (some 10) .bool [9] (.call 62 [(.t 9)]) <|
 .m 6 10 <|
 .nil))
 (.seq (.seq (.ops (.m 11 5 <|
 .nil))
 (.cond (.tmp 11) (.seq (.seq (.ops (.m 12 6 <|
 .nil))
 (.cond (.tmp 12) (.seq (.ops (.p 4 [] (.mov (.i 0)) <|
 .nil))
 .ret)
 .skip))
 (.seq (.ops (.p 4 [] (.mov (.con (V.int .i64 (Int.negSucc 0)))) <|
 .nil))
 .ret))
 .skip))
 (.seq (.seq (.ops (.m 13 6 <|
 .nil))
 (.cond (.tmp 13) (.seq (.ops (.p 4 [] (.mov (.i 1)) <|
 .nil))
 .ret)
 .skip))
 (.seq (.seq (.ops (.m 14 0 <|
 .m 15 1 <|
 .p 16 [14, 15] (.bin .lss .none (.t 14) (.t 15)) <|
 .nil))
 (.cond (.tmp 16) (.seq (.ops (.p 4 [] (.mov (.con (V.int .i64 (Int.negSucc 0)))) <|
 .nil))
 .ret)
 .skip))
 (.seq (.seq (.ops (.m 17 0 <|
 .m 18 1 <|
 .p 19 [17, 18] (.bin .gtr .none (.t 17) (.t 18)) <|
 .nil))
 (.cond (.tmp 19) (.seq (.ops (.p 4 [] (.mov (.i 1)) <|
 .nil))
 .ret)
 .skip))
 (.seq (.ops (.p 4 [] (.mov (.i 0)) <|
 .nil))
 .ret))))))))
def A37 : XFn := ⟨20, [.str, .str], [(.tmp 4)], C37_0⟩
/-! ### F40: __ogham_lex.reader_.skip -/
def Fin40 (E : List (Nat × Blk)) : St → Ans := fun s => resK E s [] fun l => some (oneV l, s.σ)
def C40_0 (cc1 : XC) : XC := (.block 0 (.loop [(0, .ptr)] [] [] cc1))
def T40_0 (E : List (Nat × Blk)) (D : Den) (W : DrawFn) (K1 : Nat → Nat → H → Ans) (v0b : Nat) (v0o : Nat) (σ : H) : Ans :=
 K1 v0b v0o σ
def C40_1 (cc2 : XC) (cc3 : XC) : XC := (.seq (.seq (.draw (.m 3 0 <|
 .p 4 [3] (.nilck (.t 3)) <|
 .p 5 [4] (.faddr 1 (.t 4)) <|
 .op (some 6) .i [5] (.load none (.t 5)) <|
 .m 7 0 <|
 .p 8 [7] (.nilck (.t 7)) <|
 .p 9 [8] (.faddr 0 (.t 8)) <|
 .op (some 10) .str [9] (.load none (.t 9)) <|
 .p 11 [10] (.len true (.t 10)) <|
 .p 12 [6, 11] (.bin .lss .none (.t 6) (.t 11)) <|
 .nil) [0, 1, 3, 7, 0, 16, 48, 112, 240, 511])
 (.cond (.tmp 12) .skip
 (.exit 0)))
 (.block 1 (.seq (.ops (.m 13 0 <|
 .op (some 14) (.int .u8) [13] (.call 64 [(.t 13), (.i 0)]) <|
 .m 2 14 <|
 .nil))
 (.block 2 (.seq (.ops (.m 16 2 <|
 .p 17 [16] (.bin .eql .none (.t 16) (.con (V.int .u8 (Int.ofNat 32)))) <|
 .m 18 17 <|
 .grp 18 false (.p 19 [2, 18] (.mov (.t 2)) <|
 .p 20 [19, 18] (.bin .eql .none (.t 19) (.con (V.int .u8 (Int.ofNat 9)))) <|
 .nil) 21 [18, 20] (.t 18) (.con (V.bool true)) (.t 20) <|
 .m 22 21 <|
 .grp 22 false (.p 23 [2, 22] (.mov (.t 2)) <|
 .p 24 [23, 22] (.bin .eql .none (.t 23) (.con (V.int .u8 (Int.ofNat 10)))) <|
 .nil) 25 [22, 24] (.t 22) (.con (V.bool true)) (.t 24) <|
 .m 26 25 <|
 .grp 26 false (.p 27 [2, 26] (.mov (.t 2)) <|
 .p 28 [27, 26] (.bin .eql .none (.t 27) (.con (V.int .u8 (Int.ofNat 13)))) <|
 .nil) 29 [26, 28] (.t 26) (.con (V.bool true)) (.t 28) <|
 .m 15 29 <|
 .nil))
 (.cond (.tmp 15) (.ops (.m 30 0 <|
 .p 31 [30] (.nilck (.t 30)) <|
 .p 32 [31] (.faddr 1 (.t 31)) <|
 .op (some 33) .i [32] (.load none (.t 32)) <|
 .p 34 [33] (.bin .add .none (.t 33) (.i 1)) <|
 .p 35 [30] (.nilck (.t 30)) <|
 .p 36 [35] (.faddr 1 (.t 35)) <|
 .op none .any [36, 34] (.store 1 (.t 36) (.t 34)) <|
 .nil))
 (.seq (.ops (.m 38 0 <|
 .op (some 39) .bool [38] (.call 65 [(.t 38), (.con (V.str ⟨2, 11565⟩))]) <|
 .m 37 39 <|
 .nil))
 (.cond (.tmp 37) (.seq (.ops (.m 40 0 <|
 .p 41 [40] (.nilck (.t 40)) <|
 .p 42 [41] (.faddr 1 (.t 41)) <|
 .op (some 43) .i [42] (.load none (.t 42)) <|
 .p 44 [43] (.bin .add .none (.t 43) (.i 2)) <|
 .p 45 [40] (.nilck (.t 40)) <|
 .p 46 [45] (.faddr 1 (.t 45)) <|
 .op none .any [46, 44] (.store 1 (.t 46) (.t 44)) <|
 .nil))
 (.seq (.block 3 (.loop [(0, .ptr)] [] [] cc3))
 (.keep [(0, .ptr)] [] [] cc2)))
 .ret))))))))
def T40_1 (E : List (Nat × Blk)) (D : Den) (W : DrawFn) (K3 : Nat → Nat → H → Ans) (R1 : Nat → Nat → H → Ans) (v0b : Nat) (v0o : Nat) (σ : H) : Ans :=
 ldK E σ v0b (Nat.add v0o 1) fun u1 =>
 rtInt .i64 u1 fun x2 =>
 ldK E σ v0b v0o fun u3 =>
 rtStr u3 fun x4 =>
 condK (ltF x2 (Int.ofNat (BS.len x4))) (
 callK (D 64 [(V.ptr v0b v0o), (V.int .i64 (Int.ofNat 0))] σ) fun u5 s6 =>
 rtInt .u8 u5 fun x7 =>
 joinB (fun c8 s9 =>
 joinB (fun c11 s12 =>
 joinB (fun c14 s15 =>
 condK c14 (
 ldK E s15 v0b (Nat.add v0o 1) fun u17 =>
 rtInt .i64 u17 fun x18 =>
 stK 1 v0b (Nat.add v0o 1) (V.int .i64 (addF .i64 x18 (Int.ofNat 1))) s15 fun s19 =>
 R1 v0b v0o s19) (
 callK (D 65 [(V.ptr v0b v0o), (V.str (BS.mk 2 11565))] s15) fun u20 s21 =>
 rtBool u20 fun x22 =>
 condK x22 (
 ldK E s21 v0b (Nat.add v0o 1) fun u23 =>
 rtInt .i64 u23 fun x24 =>
 stK 1 v0b (Nat.add v0o 1) (V.int .i64 (addF .i64 x24 (Int.ofNat 2))) s21 fun s25 =>
 K3 v0b v0o s25) (
 some ((V.tup []), s21)))) fun k16 =>
 condK c11 (
 k16 true s12) (
 k16 (eqF x7 (Int.ofNat 13)) s12)) fun k13 =>
 condK c8 (
 k13 true s9) (
 k13 (eqF x7 (Int.ofNat 10)) s9)) fun k10 =>
 condK (eqF x7 (Int.ofNat 32)) (
 k10 true s6) (
 k10 (eqF x7 (Int.ofNat 9)) s6)) (
 some ((V.tup []), σ))
def C40_2 : XC := (.seq (.ops (.m 74 0 <|
 .op (some 75) .bool [74] (.call 65 [(.t 74), (.con (V.str ⟨2, 11565⟩))]) <|
 .nil))
 (.cond (.tmp 75) (.ops (.m 76 0 <|
 .p 77 [76] (.nilck (.t 76)) <|
 .p 78 [77] (.faddr 1 (.t 77)) <|
 .op (some 79) .i [78] (.load none (.t 78)) <|
 .p 80 [79] (.bin .add .none (.t 79) (.i 2)) <|
 .p 81 [76] (.nilck (.t 76)) <|
 .p 82 [81] (.faddr 1 (.t 81)) <|
 .op none .any [82, 80] (.store 1 (.t 82) (.t 80)) <|
 .nil))
 .skip))
def T40_2 (E : List (Nat × Blk)) (D : Den) (W : DrawFn) (R1 : Nat → Nat → H → Ans) (v0b : Nat) (v0o : Nat) (σ : H) : Ans :=
 callK (D 65 [(V.ptr v0b v0o), (V.str (BS.mk 2 11565))] σ) fun u1 s2 =>
 rtBool u1 fun x3 =>
 condK x3 (
 ldK E s2 v0b (Nat.add v0o 1) fun u4 =>
 rtInt .i64 u4 fun x5 =>
 stK 1 v0b (Nat.add v0o 1) (V.int .i64 (addF .i64 x5 (Int.ofNat 2))) s2 fun s6 =>
 R1 v0b v0o s6) (
 R1 v0b v0o s2)
def C40_3 : XC := (.seq (.seq (.draw (.m 47 0 <|
 .p 48 [47] (.nilck (.t 47)) <|
 .p 49 [48] (.faddr 1 (.t 48)) <|
 .op (some 50) .i [49] (.load none (.t 49)) <|
 .m 51 0 <|
 .p 52 [51] (.nilck (.t 51)) <|
 .p 53 [52] (.faddr 0 (.t 52)) <|
 .op (some 54) .str [53] (.load none (.t 53)) <|
 .p 55 [54] (.len true (.t 54)) <|
 .p 56 [50, 55] (.bin .lss .none (.t 50) (.t 55)) <|
 .m 57 56 <|
 .grp 57 true (.p 58 [0, 57] (.mov (.t 0)) <|
 .op (some 59) (.int .u8) [58, 57] (.call 64 [(.t 58), (.i 0)]) <|
 .p 60 [59, 57] (.bin .neq .none (.t 59) (.con (V.int .u8 (Int.ofNat 10)))) <|
 .nil) 61 [57, 60] (.t 57) (.t 60) (.con (V.bool false)) <|
 .m 62 61 <|
 .grp 62 true (.p 63 [0, 62] (.mov (.t 0)) <|
 .op (some 64) .bool [63, 62] (.call 65 [(.t 63), (.con (V.str ⟨2, 11565⟩))]) <|
 .p 65 [64, 62] (.un .not (.t 64)) <|
 .nil) 66 [62, 65] (.t 62) (.t 65) (.con (V.bool false)) <|
 .nil) [0, 1, 3, 7, 0, 16, 48, 112, 240, 511, 1023, 2047, 4095, 8191, 16383, 32767, 65535, 131071, 262143, 524287])
 (.cond (.tmp 66) .skip
 (.exit 3)))
 (.block 4 (.ops (.m 67 0 <|
 .p 68 [67] (.nilck (.t 67)) <|
 .p 69 [68] (.faddr 1 (.t 68)) <|
 .op (some 70) .i [69] (.load none (.t 69)) <|
 .p 71 [70] (.bin .add .none (.t 70) (.i 1)) <|
 .p 72 [67] (.nilck (.t 67)) <|
 .p 73 [72] (.faddr 1 (.t 72)) <|
 .op none .any [73, 71] (.store 1 (.t 73) (.t 71)) <|
 .nil))))
def T40_3 (E : List (Nat × Blk)) (D : Den) (W : DrawFn) (K2 : Nat → Nat → H → Ans) (R3 : Nat → Nat → H → Ans) (v0b : Nat) (v0o : Nat) (σ : H) : Ans :=
 ldK E σ v0b (Nat.add v0o 1) fun u1 =>
 rtInt .i64 u1 fun x2 =>
 ldK E σ v0b v0o fun u3 =>
 rtStr u3 fun x4 =>
 joinB (fun c5 s6 =>
 joinB (fun c8 s9 =>
 condK c8 (
 ldK E s9 v0b (Nat.add v0o 1) fun u11 =>
 rtInt .i64 u11 fun x12 =>
 stK 1 v0b (Nat.add v0o 1) (V.int .i64 (addF .i64 x12 (Int.ofNat 1))) s9 fun s13 =>
 R3 v0b v0o s13) (
 K2 v0b v0o s9)) fun k10 =>
 condK c5 (
 callK (D 65 [(V.ptr v0b v0o), (V.str (BS.mk 2 11565))] s6) fun u14 s15 =>
 rtBool u14 fun x16 =>
 k10 (not x16) s15) (
 k10 false s6)) fun k7 =>
 condK (ltF x2 (Int.ofNat (BS.len x4))) (
 callK (D 64 [(V.ptr v0b v0o), (V.int .i64 (Int.ofNat 0))] σ) fun u17 s18 =>
 rtInt .u8 u17 fun x19 =>
 k7 (not (eqF x19 (Int.ofNat 10))) s18) (
 k7 false σ)
theorem P40_0 (cc1 : XC) (v0b : Nat) (v0o : Nat) (σ : H) :
  denC E D W N (C40_0 cc1) ⟨[(0, (V.ptr v0b v0o))], [], [], σ⟩ (Fin40 E) (fun _ _ => none) (Fin40 E) =
  T40_0 E D W (fun v0b v0o σ => iterK (fun rec s' => denC E D W N cc1 s' (fun s'' => keepS [(0, .ptr)] [] [] s'' rec) (blkK 0 (Fin40 E) (fun _ _ => none)) (Fin40 E)) N ⟨[(0, (V.ptr v0b v0o))], [], [], σ⟩) v0b v0o σ := by kernel_rfl
theorem P40_1 (cc2 : XC) (cc3 : XC) (li1 : St → Ans) (v0b : Nat) (v0o : Nat) (σ : H) :
  denC E D W N (C40_1 cc2 cc3) ⟨[(0, (V.ptr v0b v0o))], [], [], σ⟩ (fun s'' => keepS [(0, .ptr)] [] [] s'' li1) (blkK 0 (Fin40 E) (fun _ _ => none)) (Fin40 E) =
  T40_1 E D W (fun v0b v0o σ => iterK (fun rec s' => denC E D W N cc3 s' (fun s'' => keepS [(0, .ptr)] [] [] s'' rec) (blkK 3 (fun s' => denC E D W N (.keep [(0, .ptr)] [] [] cc2) s' (fun s'' => keepS [(0, .ptr)] [] [] s'' li1) (blkK 2 (fun s'' => keepS [(0, .ptr)] [] [] s'' li1) (blkK 1 (fun s'' => keepS [(0, .ptr)] [] [] s'' li1) (blkK 0 (Fin40 E) (fun _ _ => none)))) (Fin40 E)) (blkK 2 (fun s'' => keepS [(0, .ptr)] [] [] s'' li1) (blkK 1 (fun s'' => keepS [(0, .ptr)] [] [] s'' li1) (blkK 0 (Fin40 E) (fun _ _ => none))))) (Fin40 E)) N ⟨[(0, (V.ptr v0b v0o))], [], [], σ⟩) (fun v0b v0o σ => li1 ⟨[(0, (V.ptr v0b v0o))], [], [], σ⟩) v0b v0o σ := by kernel_rfl
theorem P40_2 (li1 : St → Ans) (v0b : Nat) (v0o : Nat) (σ : H) :
  denC E D W N (C40_2 ) ⟨[(0, (V.ptr v0b v0o))], [], [], σ⟩ (fun s'' => keepS [(0, .ptr)] [] [] s'' li1) (blkK 2 (fun s'' => keepS [(0, .ptr)] [] [] s'' li1) (blkK 1 (fun s'' => keepS [(0, .ptr)] [] [] s'' li1) (blkK 0 (Fin40 E) (fun _ _ => none)))) (Fin40 E) =
  T40_2 E D W (fun v0b v0o σ => li1 ⟨[(0, (V.ptr v0b v0o))], [], [], σ⟩) v0b v0o σ := by kernel_rfl
theorem P40_3 (cc2 : XC) (li1 : St → Ans) (li3 : St → Ans) (v0b : Nat) (v0o : Nat) (σ : H) :
  denC E D W N (C40_3 ) ⟨[(0, (V.ptr v0b v0o))], [], [], σ⟩ (fun s'' => keepS [(0, .ptr)] [] [] s'' li3) (blkK 3 (fun s' => denC E D W N (.keep [(0, .ptr)] [] [] cc2) s' (fun s'' => keepS [(0, .ptr)] [] [] s'' li1) (blkK 2 (fun s'' => keepS [(0, .ptr)] [] [] s'' li1) (blkK 1 (fun s'' => keepS [(0, .ptr)] [] [] s'' li1) (blkK 0 (Fin40 E) (fun _ _ => none)))) (Fin40 E)) (blkK 2 (fun s'' => keepS [(0, .ptr)] [] [] s'' li1) (blkK 1 (fun s'' => keepS [(0, .ptr)] [] [] s'' li1) (blkK 0 (Fin40 E) (fun _ _ => none))))) (Fin40 E) =
  T40_3 E D W (fun v0b v0o σ => denC E D W N cc2 ⟨[(0, (V.ptr v0b v0o))], [], [], σ⟩ (fun s'' => keepS [(0, .ptr)] [] [] s'' li1) (blkK 2 (fun s'' => keepS [(0, .ptr)] [] [] s'' li1) (blkK 1 (fun s'' => keepS [(0, .ptr)] [] [] s'' li1) (blkK 0 (Fin40 E) (fun _ _ => none)))) (Fin40 E)) (fun v0b v0o σ => li3 ⟨[(0, (V.ptr v0b v0o))], [], [], σ⟩) v0b v0o σ := by kernel_rfl
def J40_2 (E : List (Nat × Blk)) (D : Den) (W : DrawFn) (N : Nat) (R1 : Nat → Nat → H → Ans) : Nat → Nat → H → Ans := T40_2 E D W R1
theorem JE40_2 (li1 : St → Ans) (v0b : Nat) (v0o : Nat) (σ : H) :
  denC E D W N C40_2 ⟨[(0, (V.ptr v0b v0o))], [], [], σ⟩ (fun s'' => keepS [(0, .ptr)] [] [] s'' li1) (blkK 2 (fun s'' => keepS [(0, .ptr)] [] [] s'' li1) (blkK 1 (fun s'' => keepS [(0, .ptr)] [] [] s'' li1) (blkK 0 (Fin40 E) (fun _ _ => none)))) (Fin40 E) = J40_2 E D W N (fun v0b v0o σ => li1 ⟨[(0, (V.ptr v0b v0o))], [], [], σ⟩) v0b v0o σ := by
  refine (P40_2 E D W N  li1 v0b v0o σ).trans ?_
  kernel_rfl
def L40_3 (R1 : Nat → Nat → H → Ans) (n : Nat) : Nat → Nat → H → Ans :=
  Nat.rec (fun _ _ _ => none) (fun _ ih => T40_3 E D W (J40_2 E D W N R1) ih) n
theorem LE40_3 (li1 : St → Ans) (n : Nat) : ∀ (v0b : Nat) (v0o : Nat) (σ : H),
  iterK (fun rec s' => denC E D W N C40_3 s' (fun s'' => keepS [(0, .ptr)] [] [] s'' rec) (blkK 3 (fun s' => denC E D W N (.keep [(0, .ptr)] [] [] C40_2) s' (fun s'' => keepS [(0, .ptr)] [] [] s'' li1) (blkK 2 (fun s'' => keepS [(0, .ptr)] [] [] s'' li1) (blkK 1 (fun s'' => keepS [(0, .ptr)] [] [] s'' li1) (blkK 0 (Fin40 E) (fun _ _ => none)))) (Fin40 E)) (blkK 2 (fun s'' => keepS [(0, .ptr)] [] [] s'' li1) (blkK 1 (fun s'' => keepS [(0, .ptr)] [] [] s'' li1) (blkK 0 (Fin40 E) (fun _ _ => none))))) (Fin40 E)) n ⟨[(0, (V.ptr v0b v0o))], [], [], σ⟩ = L40_3 E D W N (fun v0b v0o σ => li1 ⟨[(0, (V.ptr v0b v0o))], [], [], σ⟩) n v0b v0o σ := by
  induction n with
  | zero => intro v0b v0o σ; rfl
  | succ n ihn =>
    intro v0b v0o σ
    rw [iterK_succ]
    refine (P40_3 E D W N C40_2 li1 (iterK (fun rec s' => denC E D W N C40_3 s' (fun s'' => keepS [(0, .ptr)] [] [] s'' rec) (blkK 3 (fun s' => denC E D W N (.keep [(0, .ptr)] [] [] C40_2) s' (fun s'' => keepS [(0, .ptr)] [] [] s'' li1) (blkK 2 (fun s'' => keepS [(0, .ptr)] [] [] s'' li1) (blkK 1 (fun s'' => keepS [(0, .ptr)] [] [] s'' li1) (blkK 0 (Fin40 E) (fun _ _ => none)))) (Fin40 E)) (blkK 2 (fun s'' => keepS [(0, .ptr)] [] [] s'' li1) (blkK 1 (fun s'' => keepS [(0, .ptr)] [] [] s'' li1) (blkK 0 (Fin40 E) (fun _ _ => none))))) (Fin40 E)) n) v0b v0o σ).trans ?_
    simp only [ihn, JE40_2]
    kernel_rfl
def L40_1 (n : Nat) : Nat → Nat → H → Ans :=
  Nat.rec (fun _ _ _ => none) (fun _ ih => T40_1 E D W (L40_3 E D W N ih N) ih) n
theorem LE40_1 (n : Nat) : ∀ (v0b : Nat) (v0o : Nat) (σ : H),
  iterK (fun rec s' => denC E D W N (C40_1 C40_2 C40_3) s' (fun s'' => keepS [(0, .ptr)] [] [] s'' rec) (blkK 0 (Fin40 E) (fun _ _ => none)) (Fin40 E)) n ⟨[(0, (V.ptr v0b v0o))], [], [], σ⟩ = L40_1 E D W N n v0b v0o σ := by
  induction n with
  | zero => intro v0b v0o σ; rfl
  | succ n ihn =>
    intro v0b v0o σ
    rw [iterK_succ]
    refine (P40_1 E D W N C40_2 C40_3 (iterK (fun rec s' => denC E D W N (C40_1 C40_2 C40_3) s' (fun s'' => keepS [(0, .ptr)] [] [] s'' rec) (blkK 0 (Fin40 E) (fun _ _ => none)) (Fin40 E)) n) v0b v0o σ).trans ?_
    simp only [ihn, LE40_3]
    kernel_rfl
def J40_0 : Nat → Nat → H → Ans := T40_0 E D W (L40_1 E D W N N)
theorem JE40_0 (v0b : Nat) (v0o : Nat) (σ : H) :
  denC E D W N (C40_0 (C40_1 C40_2 C40_3)) ⟨[(0, (V.ptr v0b v0o))], [], [], σ⟩ (Fin40 E) (fun _ _ => none) (Fin40 E) = J40_0 E D W N v0b v0o σ := by
  refine (P40_0 E D W N (C40_1 C40_2 C40_3)  v0b v0o σ).trans ?_
  simp only [LE40_1]
  kernel_rfl
def F40 (args : List V) (σ : H) : Ans :=
 rtCons args fun x1 l2 =>
 rtPtr x1 fun b3 o4 =>
 rtNil l2 (
 J40_0 E D W N b3 o4 σ)
def A40 : XFn := ⟨83, [.ptr], [], (C40_0 (C40_1 C40_2 C40_3))⟩
theorem FE40 (args : List V) (σ : H) : runX E D W N A40 args σ = F40 E D W N args σ := by
  unfold F40
  simp only [← JE40_0]
  kernel_rfl
theorem AO40 : A40.body.ok = true := by kernel_rfl

/-! ### F41: __ogham_lex.lexer_.token -/
def Fin41 (E : List (Nat × Blk)) : St → Ans := fun s => resK E s [(.tmp 2), (.tmp 3)] fun l => some (oneV l, s.σ)
def C41_0 : XC := (.seq (.ops (.p 2 [] (.mov (.i 0)) <|
 .p 3 [] (.mov (.con (V.str ⟨0, 0⟩))) <|
 .nil))
 (.seq (.seq (.ops (.m 5 0 <|
 .p 6 [5] (.nilck (.t 5)) <|
 .p 7 [6] (.faddr 0 (.t 6)) <|
 .op (some 8) (.int .u8) [7] (.call 64 [(.t 7), (.i 0)]) <|
 .m 4 8 <|
 .nil))
 (.block 0 (.seq (.ops (.m 10 4 <|
 .op (some 11) .bool [10] (.call 66 [(.t 10)]) <|
 .m 9 11 <|
 .nil))
 (.cond (.tmp 9) (.seq (.ops (.m 12 0 <|
 .op (some 13) (.tup [.i, .str]) [12] (.call 67 [(.t 12)]) <|
 .p 14 [13] (.extract 0 (.t 13)) <|
 .p 15 [13] (.extract 1 (.t 13)) <|
 .m 2 14 <|
 .m 3 15 <|
 .nil))
 .ret)
 (.seq (.ops (.m 17 4 <|
 .op (some 18) .bool [17] (.call 68 [(.t 17)]) <|
 .m 19 18 <|
 .grp 19 false (.p 20 [4, 19] (.mov (.t 4)) <|
 .p 21 [20, 19] (.bin .eql .none (.t 20) (.con (V.int .u8 (Int.ofNat 45)))) <|
 .p 22 [21, 19] (.mov (.t 21)) <|
 .grp 22 true (.p 23 [0, 22] (.mov (.t 0)) <|
 .p 24 [23, 22] (.nilck (.t 23)) <|
 .p 25 [24, 22] (.faddr 0 (.t 24)) <|
 .op (some 26) (.int .u8) [25, 22] (.call 64 [(.t 25), (.i 1)]) <|
 .op (some 27) .bool [26, 22] (.call 68 [(.t 26)]) <|
 .nil) 28 [22, 27, 19] (.t 22) (.t 27) (.con (V.bool false)) <|
 .nil) 29 [19, 28] (.t 19) (.con (V.bool true)) (.t 28) <|
 .m 16 29 <|
 .nil))
 (.cond (.tmp 16) (.seq (.ops (.m 30 0 <|
 .op (some 31) (.tup [.i, .str]) [30] (.call 69 [(.t 30)]) <|
 .p 32 [31] (.extract 0 (.t 31)) <|
 .p 33 [31] (.extract 1 (.t 31)) <|
 .m 2 32 <|
 .m 3 33 <|
 .nil))
 .ret)
 (.seq (.ops (.m 35 4 <|
 .p 36 [35] (.bin .eql .none (.t 35) (.con (V.int .u8 (Int.ofNat 39)))) <|
 .m 34 36 <|
 .nil))
 (.cond (.tmp 34) (.seq (.ops (.m 37 0 <|
 .op (some 38) (.tup [.i, .str]) [37] (.call 70 [(.t 37)]) <|
 .p 39 [38] (.extract 0 (.t 38)) <|
 .p 40 [38] (.extract 1 (.t 38)) <|
 .m 2 39 <|
 .m 3 40 <|
 .nil))
 .ret)
 (.seq (.ops (.m 42 4 <|
 .p 43 [42] (.bin .eql .none (.t 42) (.con (V.int .u8 (Int.ofNat 34)))) <|
 .m 41 43 <|
 .nil))
 (.cond (.tmp 41) (.seq (.ops (.m 44 0 <|
 .op (some 45) (.tup [.i, .str]) [44] (.call 71 [(.t 44)]) <|
 .p 46 [45] (.extract 0 (.t 45)) <|
 .p 47 [45] (.extract 1 (.t 45)) <|
 .m 2 46 <|
 .m 3 47 <|
 .nil))
 .ret)
 .skip))))))))))
 (.seq (.ops (.m 48 0 <|
 .op (some 49) (.tup [.i, .str]) [48] (.call 72 [(.t 48)]) <|
 .p 50 [49] (.extract 0 (.t 49)) <|
 .p 51 [49] (.extract 1 (.t 49)) <|
 .m 2 50 <|
 .m 3 51 <|
 .nil))
 .ret)))
def T41_0 (E : List (Nat × Blk)) (D : Den) (W : DrawFn) (v0b : Nat) (v0o : Nat) (σ : H) : Ans :=
 callK (D 64 [(V.ptr v0b v0o), (V.int .i64 (Int.ofNat 0))] σ) fun u1 s2 =>
 rtInt .u8 u1 fun x3 =>
 callK (D 66 [(V.int .u8 x3)] s2) fun u4 s5 =>
 rtBool u4 fun x6 =>
 condK x6 (
 callK (D 67 [(V.ptr v0b v0o)] s5) fun u7 s8 =>
 rtTup u7 fun l9 =>
 rtCons l9 fun x10 l11 =>
 rtInt .i64 x10 fun x12 =>
 rtCons l11 fun x13 l14 =>
 rtStr x13 fun x15 =>
 rtNil l14 (
 some ((V.tup [(V.int .i64 x12), (V.str x15)]), s8))) (
 callK (D 68 [(V.int .u8 x3)] s5) fun u16 s17 =>
 rtBool u16 fun x18 =>
 joinB (fun c19 s20 =>
 condK c19 (
 callK (D 69 [(V.ptr v0b v0o)] s20) fun u22 s23 =>
 rtTup u22 fun l24 =>
 rtCons l24 fun x25 l26 =>
 rtInt .i64 x25 fun x27 =>
 rtCons l26 fun x28 l29 =>
 rtStr x28 fun x30 =>
 rtNil l29 (
 some ((V.tup [(V.int .i64 x27), (V.str x30)]), s23))) (
 condK (eqF x3 (Int.ofNat 39)) (
 callK (D 70 [(V.ptr v0b v0o)] s20) fun u31 s32 =>
 rtTup u31 fun l33 =>
 rtCons l33 fun x34 l35 =>
 rtInt .i64 x34 fun x36 =>
 rtCons l35 fun x37 l38 =>
 rtStr x37 fun x39 =>
 rtNil l38 (
 some ((V.tup [(V.int .i64 x36), (V.str x39)]), s32))) (
 condK (eqF x3 (Int.ofNat 34)) (
 callK (D 71 [(V.ptr v0b v0o)] s20) fun u40 s41 =>
 rtTup u40 fun l42 =>
 rtCons l42 fun x43 l44 =>
 rtInt .i64 x43 fun x45 =>
 rtCons l44 fun x46 l47 =>
 rtStr x46 fun x48 =>
 rtNil l47 (
 some ((V.tup [(V.int .i64 x45), (V.str x48)]), s41))) (
 callK (D 72 [(V.ptr v0b v0o)] s20) fun u49 s50 =>
 rtTup u49 fun l51 =>
 rtCons l51 fun x52 l53 =>
 rtInt .i64 x52 fun x54 =>
 rtCons l53 fun x55 l56 =>
 rtStr x55 fun x57 =>
 rtNil l56 (
 some ((V.tup [(V.int .i64 x54), (V.str x57)]), s50)))))) fun k21 =>
 condK x18 (
 k21 true s17) (
 joinB (fun c58 s59 =>
 k21 c58 s59) fun k60 =>
 condK (eqF x3 (Int.ofNat 45)) (
 callK (D 64 [(V.ptr v0b v0o), (V.int .i64 (Int.ofNat 1))] s17) fun u61 s62 =>
 rtInt .u8 u61 fun x63 =>
 callK (D 68 [(V.int .u8 x63)] s62) fun u64 s65 =>
 rtBool u64 fun x66 =>
 k60 x66 s65) (
 k60 false s17)))
theorem P41_0 (v0b : Nat) (v0o : Nat) (σ : H) :
  denC E D W N (C41_0 ) ⟨[(0, (V.ptr v0b v0o))], [], [], σ⟩ (Fin41 E) (fun _ _ => none) (Fin41 E) =
  T41_0 E D W  v0b v0o σ := by kernel_rfl
def J41_0 (E : List (Nat × Blk)) (D : Den) (W : DrawFn) (N : Nat) : Nat → Nat → H → Ans := T41_0 E D W 
theorem JE41_0 (v0b : Nat) (v0o : Nat) (σ : H) :
  denC E D W N C41_0 ⟨[(0, (V.ptr v0b v0o))], [], [], σ⟩ (Fin41 E) (fun _ _ => none) (Fin41 E) = J41_0 E D W N v0b v0o σ := by
  refine (P41_0 E D W N   v0b v0o σ).trans ?_
  kernel_rfl
def F41 (args : List V) (σ : H) : Ans :=
 rtCons args fun x1 l2 =>
 rtPtr x1 fun b3 o4 =>
 rtNil l2 (
 J41_0 E D W N b3 o4 σ)
def A41 : XFn := ⟨52, [.ptr], [(.tmp 2), (.tmp 3)], C41_0⟩
theorem FE41 (args : List V) (σ : H) : runX E D W N A41 args σ = F41 E D W N args σ := by
  unfold F41
  simp only [← JE41_0]
  kernel_rfl
theorem AO41 : A41.body.ok = true := by kernel_rfl

/-! ### F42: __ogham_syntax.parser_.of -/
def G42_0 : List AOper := [⟨(some 15), .load (some 3) (.tmp 6), none⟩, ⟨(some 16), .mov (.tmp 0), none⟩, ⟨(some 17), .faddr 2 (.tmp 6), none⟩, ⟨(some 18), .load none (.tmp 17), none⟩, ⟨(some 19), .call 73 [(.tmp 16), (.tmp 18), (.con (V.int .i64 (Int.ofNat 7)))], none⟩, ⟨none, .store 3 (.tmp 4) (.tmp 15), none⟩, ⟨(some 5), .mov (.tmp 19), none⟩]
def H42_0 : List DP := [⟨0, [6]⟩, ⟨0, [0]⟩, ⟨0, [6]⟩, ⟨4, [17]⟩, ⟨14, [16, 18]⟩, ⟨31, [4, 15]⟩, ⟨63, [19]⟩]
def Fin42 (E : List (Nat × Blk)) : St → Ans := fun s => resK E s [(.cell 4 (some 3)), (.tmp 5)] fun l => some (oneV l, s.σ)
def C42_0 : XC := (.seq (.ops (.p 4 [] (.alloc 116 [(V.int .i64 (Int.ofNat 0)), (V.str ⟨0, 0⟩), (V.int .i64 (Int.ofNat 0))]) <|
 .p 5 [] (.mov (.con (V.bool false))) <|
 .nil))
 (.seq (.ops (.m 7 0 <|
 .p 8 [7] (.nilck (.t 7)) <|
 .p 9 [8] (.faddr 0 (.t 8)) <|
 .op (some 10) (.agg [.i, .str, .i]) [9] (.call 45 [(.t 9)]) <|
 .p 6 [] (.alloc 116 [(V.int .i64 (Int.ofNat 0)), (V.str ⟨0, 0⟩), (V.int .i64 (Int.ofNat 0))]) <|
 .op none (.agg [.i, .str, .i]) [6, 10] (.store 3 (.t 6) (.t 10)) <|
 .nil))
 (.seq (.seq (.ops (.p 11 [6] (.faddr 0 (.t 6)) <|
 .op (some 12) .i [11] (.load none (.t 11)) <|
 .m 13 1 <|
 .p 14 [12, 13] (.bin .neq .none (.t 12) (.t 13)) <|
 .nil))
 (.cond (.tmp 14) (.seq (.keep [(0, .ptr), (4, .ptr), (6, .ptr)] [] [] (.gdraw G42_0 H42_0 [(4, .ptr), (5, .bool)]))
 .ret)
 .skip))
 (.seq (.ops (.m 20 0 <|
 .p 21 [20] (.nilck (.t 20)) <|
 .p 22 [21] (.faddr 0 (.t 21)) <|
 .op (some 23) (.agg [.i, .str, .i]) [22] (.call 74 [(.t 22)]) <|
 .op none (.agg [.i, .str, .i]) [4, 23] (.store 3 (.t 4) (.t 23)) <|
 .p 5 [] (.mov (.con (V.bool true))) <|
 .nil))
 .ret))))
def T42_0 (v0b : Nat) (v0o : Nat) (v1 : Int) (σ : H) : Ans :=
 let s1 := newB σ (.cells [(V.int .i64 (Int.ofNat 0)), (V.str ⟨0, 0⟩), (V.int .i64 (Int.ofNat 0))]);
 callK (D 45 [(V.ptr v0b v0o)] s1) fun u2 s3 =>
 rtAgg u2 fun l4 =>
 rtCons l4 fun x5 l6 =>
 rtInt .i64 x5 fun x7 =>
 rtCons l6 fun x8 l9 =>
 rtStr x8 fun x10 =>
 rtCons l9 fun x11 l12 =>
 rtInt .i64 x11 fun x13 =>
 rtNil l12 (
 let s14 := newB s3 (.cells [(V.int .i64 (Int.ofNat 0)), (V.str ⟨0, 0⟩), (V.int .i64 (Int.ofNat 0))]);
 stK 3 (H.next s3) 0 (V.agg [(V.int .i64 x7), (V.str x10), (V.int .i64 x13)]) s14 fun s15 =>
 ldK E s15 (H.next s3) 0 fun u16 =>
 rtInt .i64 u16 fun x17 =>
 condK (not (eqF x17 v1)) (
 gdrawK (W G42_0 H42_0 [(0, (V.ptr v0b v0o)), (4, (V.ptr (H.next σ) 0)), (6, (V.ptr (H.next s3) 0))] s15) fun e18 s19 =>
 getL e18 4 fun u20 =>
 rtPtr u20 fun b21 o22 =>
 getL e18 5 fun u23 =>
 rtBool u23 fun x24 =>
 ldnK E s19 b21 o22 3 fun u25 =>
 some ((V.tup [(V.agg u25), (V.bool x24)]), s19)) (
 callK (D 74 [(V.ptr v0b v0o)] s15) fun u26 s27 =>
 rtAgg u26 fun l28 =>
 rtCons l28 fun x29 l30 =>
 rtInt .i64 x29 fun x31 =>
 rtCons l30 fun x32 l33 =>
 rtStr x32 fun x34 =>
 rtCons l33 fun x35 l36 =>
 rtInt .i64 x35 fun x37 =>
 rtNil l36 (
 stK 3 (H.next σ) 0 (V.agg [(V.int .i64 x31), (V.str x34), (V.int .i64 x37)]) s27 fun s38 =>
 ldnK E s38 (H.next σ) 0 3 fun u39 =>
 some ((V.tup [(V.agg u39), (V.bool true)]), s38))))
theorem P42_0 (v0b : Nat) (v0o : Nat) (v1 : Int) (σ : H) :
  denC E D W N (C42_0 ) ⟨[(0, (V.ptr v0b v0o)), (1, (V.int .i64 v1))], [], [], σ⟩ (Fin42 E) (fun _ _ => none) (Fin42 E) =
  T42_0 E D W  v0b v0o v1 σ := by kernel_rfl
def J42_0 (E : List (Nat × Blk)) (D : Den) (W : DrawFn) (N : Nat) : Nat → Nat → Int → H → Ans := T42_0 E D W 
theorem JE42_0 (v0b : Nat) (v0o : Nat) (v1 : Int) (σ : H) :
  denC E D W N C42_0 ⟨[(0, (V.ptr v0b v0o)), (1, (V.int .i64 v1))], [], [], σ⟩ (Fin42 E) (fun _ _ => none) (Fin42 E) = J42_0 E D W N v0b v0o v1 σ := by
  refine (P42_0 E D W N   v0b v0o v1 σ).trans ?_
  kernel_rfl
def F42 (args : List V) (σ : H) : Ans :=
 rtCons args fun x1 l2 =>
 rtPtr x1 fun b3 o4 =>
 rtCons l2 fun x5 l6 =>
 rtInt .i64 x5 fun x7 =>
 rtNil l6 (
 J42_0 E D W N b3 o4 x7 σ)
def A42 : XFn := ⟨24, [.ptr, .i], [(.cell 4 (some 3)), (.tmp 5)], C42_0⟩
theorem FE42 (args : List V) (σ : H) : runX E D W N A42 args σ = F42 E D W N args σ := by
  unfold F42
  simp only [← JE42_0]
  kernel_rfl
theorem AO42 : A42.body.ok = true := by kernel_rfl

/-! ### F43: __ogham_syntax.parser_.want -/
def Fin43 (E : List (Nat × Blk)) : St → Ans := fun s => resK E s [(.tmp 4)] fun l => some (oneV l, s.σ)
def C43_0 (cc1 : XC) (cc2 : XC) : XC := (.seq (.ops (.p 4 [] (.mov (.con (V.bool false))) <|
 .nil))
 (.seq (.seq (.ops (.m 7 1 <|
 .p 8 [7] (.len false (.t 7)) <|
 .p 9 [] (.mov (.i 0)) <|
 .nil))
 (.block 0 (.loop [(0, .ptr), (7, .any), (8, .i), (9, .i)] [] [] cc2)))
 (.keep [] [] [] cc1)))
def T43_0 (E : List (Nat × Blk)) (D : Den) (W : DrawFn) (K2 : Nat → Nat → V → Int → Int → H → Ans) (v0b : Nat) (v0o : Nat) (v1 : V) (σ : H) : Ans :=
 slenK v1 fun n1 =>
 K2 v0b v0o v1 (Int.ofNat n1) (Int.ofNat 0) σ
def C43_1 : XC := (.seq (.ops (.p 4 [] (.mov (.con (V.bool true))) <|
 .nil))
 .ret)
def T43_1 (E : List (Nat × Blk)) (D : Den) (W : DrawFn) (σ : H) : Ans :=
 some ((V.bool true), σ)
def C43_2 : XC := (.seq (.ops (.p 10 [9, 8] (.bin .lss .none (.t 9) (.t 8)) <|
 .nil))
 (.seq (.cond (.tmp 10) .skip
 (.exit 0))
 (.seq (.block 1 (.seq (.ops (.p 11 [7, 9] (.iaddrS 1 (.t 7) (.t 9)) <|
 .op (some 12) .str [11] (.load none (.t 11)) <|
 .m 6 12 <|
 .nil))
 (.seq (.ops (.m 13 0 <|
 .p 14 [13] (.nilck (.t 13)) <|
 .p 15 [14] (.faddr 0 (.t 14)) <|
 .m 16 6 <|
 .op (some 17) .bool [15, 16] (.call 75 [(.t 15), (.t 16)]) <|
 .p 18 [17] (.un .not (.t 17)) <|
 .nil))
 (.cond (.tmp 18) (.seq (.ops (.m 19 0 <|
 .m 20 0 <|
 .p 21 [20] (.nilck (.t 20)) <|
 .p 22 [21] (.faddr 0 (.t 21)) <|
 .op (some 23) (.agg [.i, .str, .i]) [22] (.call 45 [(.t 22)]) <|
 .op (some 24) .i [23] (.field 2 none (.t 23)) <|
 .op (some 25) .bool [19, 24] (.call 73 [(.t 19), (.t 24), (.i 7)]) <|
 .m 4 25 <|
 .nil))
 .ret)
 .skip))))
 (.ops (.p 26 [9] (.bin .add .none (.t 9) (.i 1)) <|
 .m 9 26 <|
 .nil)))))
def T43_2 (E : List (Nat × Blk)) (D : Den) (W : DrawFn) (K1 : H → Ans) (R2 : Nat → Nat → V → Int → Int → H → Ans) (v0b : Nat) (v0o : Nat) (v7 : V) (v8 : Int) (v9 : Int) (σ : H) : Ans :=
 condK (ltF v9 v8) (
 iaddrSK 1 v7 v9 fun b1 o2 =>
 ldK E σ b1 o2 fun u3 =>
 rtStr u3 fun x4 =>
 callK (D 75 [(V.ptr v0b v0o), (V.str x4)] σ) fun u5 s6 =>
 rtBool u5 fun x7 =>
 condK (not x7) (
 callK (D 45 [(V.ptr v0b v0o)] s6) fun u8 s9 =>
 rtAgg u8 fun l10 =>
 rtCons l10 fun x11 l12 =>
 rtInt .i64 x11 fun x13 =>
 rtCons l12 fun x14 l15 =>
 rtStr x14 fun x16 =>
 rtCons l15 fun x17 l18 =>
 rtInt .i64 x17 fun x19 =>
 rtNil l18 (
 callK (D 73 [(V.ptr v0b v0o), (V.int .i64 x19), (V.int .i64 (Int.ofNat 7))] s9) fun u20 s21 =>
 rtBool u20 fun x22 =>
 some ((V.bool x22), s21))) (
 R2 v0b v0o v7 v8 (addF .i64 v9 (Int.ofNat 1)) s6)) (
 K1 σ)
theorem P43_0 (cc1 : XC) (cc2 : XC) (v0b : Nat) (v0o : Nat) (v1 : V) (σ : H) :
  denC E D W N (C43_0 cc1 cc2) ⟨[(0, (V.ptr v0b v0o)), (1, v1)], [], [], σ⟩ (Fin43 E) (fun _ _ => none) (Fin43 E) =
  T43_0 E D W (fun v0b v0o v7 v8 v9 σ => iterK (fun rec s' => denC E D W N cc2 s' (fun s'' => keepS [(0, .ptr), (7, .any), (8, .i), (9, .i)] [] [] s'' rec) (blkK 0 (fun s' => denC E D W N (.keep [] [] [] cc1) s' (Fin43 E) (fun _ _ => none) (Fin43 E)) (fun _ _ => none)) (Fin43 E)) N ⟨[(0, (V.ptr v0b v0o)), (7, v7), (8, (V.int .i64 v8)), (9, (V.int .i64 v9))], [], [], σ⟩) v0b v0o v1 σ := by kernel_rfl
theorem P43_1 (σ : H) :
  denC E D W N (C43_1 ) ⟨[], [], [], σ⟩ (Fin43 E) (fun _ _ => none) (Fin43 E) =
  T43_1 E D W   σ := by kernel_rfl
theorem P43_2 (cc1 : XC) (li2 : St → Ans) (v0b : Nat) (v0o : Nat) (v7 : V) (v8 : Int) (v9 : Int) (σ : H) :
  denC E D W N (C43_2 ) ⟨[(0, (V.ptr v0b v0o)), (7, v7), (8, (V.int .i64 v8)), (9, (V.int .i64 v9))], [], [], σ⟩ (fun s'' => keepS [(0, .ptr), (7, .any), (8, .i), (9, .i)] [] [] s'' li2) (blkK 0 (fun s' => denC E D W N (.keep [] [] [] cc1) s' (Fin43 E) (fun _ _ => none) (Fin43 E)) (fun _ _ => none)) (Fin43 E) =
  T43_2 E D W (fun  σ => denC E D W N cc1 ⟨[], [], [], σ⟩ (Fin43 E) (fun _ _ => none) (Fin43 E)) (fun v0b v0o v7 v8 v9 σ => li2 ⟨[(0, (V.ptr v0b v0o)), (7, v7), (8, (V.int .i64 v8)), (9, (V.int .i64 v9))], [], [], σ⟩) v0b v0o v7 v8 v9 σ := by kernel_rfl
def J43_1 (E : List (Nat × Blk)) (D : Den) (W : DrawFn) (N : Nat) : H → Ans := T43_1 E D W 
theorem JE43_1 (σ : H) :
  denC E D W N C43_1 ⟨[], [], [], σ⟩ (Fin43 E) (fun _ _ => none) (Fin43 E) = J43_1 E D W N  σ := by
  refine (P43_1 E D W N    σ).trans ?_
  kernel_rfl
def L43_2 (n : Nat) : Nat → Nat → V → Int → Int → H → Ans :=
  Nat.rec (fun _ _ _ _ _ _ => none) (fun _ ih => T43_2 E D W (J43_1 E D W N ) ih) n
theorem LE43_2 (n : Nat) : ∀ (v0b : Nat) (v0o : Nat) (v7 : V) (v8 : Int) (v9 : Int) (σ : H),
  iterK (fun rec s' => denC E D W N C43_2 s' (fun s'' => keepS [(0, .ptr), (7, .any), (8, .i), (9, .i)] [] [] s'' rec) (blkK 0 (fun s' => denC E D W N (.keep [] [] [] C43_1) s' (Fin43 E) (fun _ _ => none) (Fin43 E)) (fun _ _ => none)) (Fin43 E)) n ⟨[(0, (V.ptr v0b v0o)), (7, v7), (8, (V.int .i64 v8)), (9, (V.int .i64 v9))], [], [], σ⟩ = L43_2 E D W N n v0b v0o v7 v8 v9 σ := by
  induction n with
  | zero => intro v0b v0o v7 v8 v9 σ; rfl
  | succ n ihn =>
    intro v0b v0o v7 v8 v9 σ
    rw [iterK_succ]
    refine (P43_2 E D W N C43_1 (iterK (fun rec s' => denC E D W N C43_2 s' (fun s'' => keepS [(0, .ptr), (7, .any), (8, .i), (9, .i)] [] [] s'' rec) (blkK 0 (fun s' => denC E D W N (.keep [] [] [] C43_1) s' (Fin43 E) (fun _ _ => none) (Fin43 E)) (fun _ _ => none)) (Fin43 E)) n) v0b v0o v7 v8 v9 σ).trans ?_
    simp only [ihn, JE43_1]
    kernel_rfl
def J43_0 : Nat → Nat → V → H → Ans := T43_0 E D W (L43_2 E D W N N)
theorem JE43_0 (v0b : Nat) (v0o : Nat) (v1 : V) (σ : H) :
  denC E D W N (C43_0 C43_1 C43_2) ⟨[(0, (V.ptr v0b v0o)), (1, v1)], [], [], σ⟩ (Fin43 E) (fun _ _ => none) (Fin43 E) = J43_0 E D W N v0b v0o v1 σ := by
  refine (P43_0 E D W N C43_1 C43_2  v0b v0o v1 σ).trans ?_
  simp only [LE43_2]
  kernel_rfl
def F43 (args : List V) (σ : H) : Ans :=
 rtCons args fun x1 l2 =>
 rtPtr x1 fun b3 o4 =>
 rtCons l2 fun x5 l6 =>
 rtNil l6 (
 J43_0 E D W N b3 o4 x5 σ)
def A43 : XFn := ⟨27, [.ptr, .any], [(.tmp 4)], (C43_0 C43_1 C43_2)⟩
theorem FE43 (args : List V) (σ : H) : runX E D W N A43 args σ = F43 E D W N args σ := by
  unfold F43
  simp only [← JE43_0]
  kernel_rfl
theorem AO43 : A43.body.ok = true := by kernel_rfl

/-! ### F44: __ogham_syntax.stream_.stands -/
def Fin44 (E : List (Nat × Blk)) : St → Ans := fun s => resK E s [(.tmp 4)] fun l => some (oneV l, s.σ)
def C44_0 : XC := (.seq (.ops (.p 4 [] (.mov (.con (V.bool false))) <|
 .nil))
 (.seq (.ops (.m 6 0 <|
 .op (some 7) (.agg [.i, .str, .i]) [6] (.call 45 [(.t 6)]) <|
 .pal 5 [] 116 [(V.int .i64 (Int.ofNat 0)), (V.str ⟨0, 0⟩), (V.int .i64 (Int.ofNat 0))] <|
 .op none (.agg [.i, .str, .i]) [5, 7] (.store 3 (.t 5) (.t 7)) <|
 .nil))
 (.seq (.ops (.p 8 [5] (.faddr 0 (.t 5)) <|
 .op (some 9) .i [8] (.load none (.t 8)) <|
 .p 10 [9] (.bin .eql .none (.t 9) (.i 5)) <|
 .m 11 10 <|
 .grp 11 false (.p 12 [5, 11] (.faddr 0 (.t 5)) <|
 .op (some 13) .i [12, 11] (.load none (.t 12)) <|
 .p 14 [13, 11] (.bin .eql .none (.t 13) (.i 6)) <|
 .nil) 15 [11, 14] (.t 11) (.con (V.bool true)) (.t 14) <|
 .m 16 15 <|
 .grp 16 true (.p 17 [5, 16] (.faddr 1 (.t 5)) <|
 .op (some 18) .str [17, 16] (.load none (.t 17)) <|
 .p 19 [1, 16] (.mov (.t 1)) <|
 .p 20 [18, 19, 16] (.bin .eql .none (.t 18) (.t 19)) <|
 .nil) 21 [16, 20] (.t 16) (.t 20) (.con (V.bool false)) <|
 .m 4 21 <|
 .nil))
 .ret)))
def T44_0 (E : List (Nat × Blk)) (D : Den) (W : DrawFn) (v0 : V) (v1 : BS) (σ : H) : Ans :=
 callK (D 45 [v0] σ) fun u1 s2 =>
 rtAgg u1 fun l3 =>
 rtCons l3 fun x4 l5 =>
 rtInt .i64 x4 fun x6 =>
 rtCons l5 fun x7 l8 =>
 rtStr x7 fun x9 =>
 rtCons l8 fun x10 l11 =>
 rtInt .i64 x10 fun x12 =>
 rtNil l11 (
 joinB (fun c13 s14 =>
 joinB (fun c16 s17 =>
 some ((V.bool c16), s17)) fun k18 =>
 condK c13 (
 k18 (BS.beq x9 v1) s14) (
 k18 false s14)) fun k15 =>
 condK (eqF x6 (Int.ofNat 5)) (
 k15 true s2) (
 k15 (eqF x6 (Int.ofNat 6)) s2))
theorem P44_0 (v0 : V) (v1 : BS) (σ : H) :
  denC E D W N (C44_0 ) ⟨[(0, v0), (1, (V.str v1))], [], [], σ⟩ (Fin44 E) (fun _ _ => none) (Fin44 E) =
  T44_0 E D W  v0 v1 σ := by kernel_rfl
def J44_0 (E : List (Nat × Blk)) (D : Den) (W : DrawFn) (N : Nat) : V → BS → H → Ans := T44_0 E D W 
theorem JE44_0 (v0 : V) (v1 : BS) (σ : H) :
  denC E D W N C44_0 ⟨[(0, v0), (1, (V.str v1))], [], [], σ⟩ (Fin44 E) (fun _ _ => none) (Fin44 E) = J44_0 E D W N v0 v1 σ := by
  refine (P44_0 E D W N   v0 v1 σ).trans ?_
  kernel_rfl
def F44 (args : List V) (σ : H) : Ans :=
 rtCons args fun x1 l2 =>
 rtCons l2 fun x3 l4 =>
 rtStr x3 fun x5 =>
 rtNil l4 (
 J44_0 E D W N x1 x5 σ)
def A44 : XFn := ⟨22, [.any, .str], [(.tmp 4)], C44_0⟩
theorem FE44 (args : List V) (σ : H) : runX E D W N A44 args σ = F44 E D W N args σ := by
  unfold F44
  simp only [← JE44_0]
  kernel_rfl
theorem AO44 : A44.body.ok = true := by kernel_rfl

/-! ### F45: __ogham_syntax.stream_.peek -/
def Fin45 (E : List (Nat × Blk)) : St → Ans := fun s => resK E s [(.cell 2 (some 3))] fun l => some (oneV l, s.σ)
def C45_0 : XC := (.seq (.ops (.pal 2 [] 116 [(V.int .i64 (Int.ofNat 0)), (V.str ⟨0, 0⟩), (V.int .i64 (Int.ofNat 0))] <|
 .nil))
 (.seq (.draw (.m 3 0 <|
 .p 4 [3] (.nilck (.t 3)) <|
 .p 5 [4] (.faddr 0 (.t 4)) <|
 .p 6 [5] (.load none (.t 5)) <|
 .m 7 0 <|
 .p 8 [7] (.nilck (.t 7)) <|
 .p 9 [8] (.faddr 1 (.t 8)) <|
 .op (some 10) .i [9] (.load none (.t 9)) <|
 .p 11 [6, 10] (.iaddrS 3 (.t 6) (.t 10)) <|
 .op (some 12) (.agg [.i, .str, .i]) [11] (.load (some 3) (.t 11)) <|
 .op none (.agg [.i, .str, .i]) [2, 12] (.store 3 (.t 2) (.t 12)) <|
 .nil) [0, 1, 3, 7, 0, 16, 48, 112, 255, 511, 1023])
 .ret))
def T45_0 (E : List (Nat × Blk)) (D : Den) (W : DrawFn) (v0b : Nat) (v0o : Nat) (σ : H) : Ans :=
 ldK E σ v0b v0o fun u1 =>
 ldK E σ v0b (Nat.add v0o 1) fun u2 =>
 rtInt .i64 u2 fun x3 =>
 iaddrSK 3 u1 x3 fun b4 o5 =>
 ldnK E σ b4 o5 3 fun l6 =>
 rtCons l6 fun x7 l8 =>
 rtInt .i64 x7 fun x9 =>
 rtCons l8 fun x10 l11 =>
 rtStr x10 fun x12 =>
 rtCons l11 fun x13 l14 =>
 rtInt .i64 x13 fun x15 =>
 rtNil l14 (
 some ((V.agg [(V.int .i64 x9), (V.str x12), (V.int .i64 x15)]), σ))
theorem P45_0 (v0b : Nat) (v0o : Nat) (σ : H) :
  denC E D W N (C45_0 ) ⟨[(0, (V.ptr v0b v0o))], [], [], σ⟩ (Fin45 E) (fun _ _ => none) (Fin45 E) =
  T45_0 E D W  v0b v0o σ := by kernel_rfl
def J45_0 (E : List (Nat × Blk)) (D : Den) (W : DrawFn) (N : Nat) : Nat → Nat → H → Ans := T45_0 E D W 
theorem JE45_0 (v0b : Nat) (v0o : Nat) (σ : H) :
  denC E D W N C45_0 ⟨[(0, (V.ptr v0b v0o))], [], [], σ⟩ (Fin45 E) (fun _ _ => none) (Fin45 E) = J45_0 E D W N v0b v0o σ := by
  refine (P45_0 E D W N   v0b v0o σ).trans ?_
  kernel_rfl
def F45 (args : List V) (σ : H) : Ans :=
 rtCons args fun x1 l2 =>
 rtPtr x1 fun b3 o4 =>
 rtNil l2 (
 J45_0 E D W N b3 o4 σ)
def A45 : XFn := ⟨13, [.ptr], [(.cell 2 (some 3))], C45_0⟩
theorem FE45 (args : List V) (σ : H) : runX E D W N A45 args σ = F45 E D W N args σ := by
  unfold F45
  simp only [← JE45_0]
  kernel_rfl
theorem AO45 : A45.body.ok = true := by kernel_rfl

/-! ### F46: __ogham_syntax.parser_.assignment -/
def G46_0 : List AOper := [⟨(some 30), .mov (.tmp 0), none⟩, ⟨(some 31), .mov (.tmp 0), none⟩, ⟨(some 32), .mov (.tmp 0), none⟩, ⟨(some 33), .nilck (.tmp 32), none⟩, ⟨(some 34), .faddr 2 (.tmp 33), none⟩, ⟨(some 35), .faddr 2 (.tmp 34), none⟩, ⟨(some 36), .load none (.tmp 35), none⟩, ⟨(some 37), .faddr 1 (.tmp 3), none⟩, ⟨(some 38), .load none (.tmp 37), none⟩, ⟨(some 39), .buildSlice 9 1 [(V.str ⟨0, 0⟩)] [(0, 1, (.tmp 38))], none⟩, ⟨(some 40), .append 9 1 16 (.tmp 36) (.tmp 39), none⟩, ⟨(some 41), .mov (.tmp 0), none⟩, ⟨(some 42), .nilck (.tmp 41), none⟩, ⟨(some 43), .faddr 2 (.tmp 42), none⟩, ⟨(some 44), .faddr 3 (.tmp 43), none⟩, ⟨(some 45), .load none (.tmp 44), none⟩, ⟨(some 46), .mov (.tmp 4), none⟩, ⟨(some 47), .buildSlice 3 1 [(V.int .i64 (Int.ofNat 0))] [(0, 1, (.tmp 46))], none⟩, ⟨(some 48), .append 3 1 8 (.tmp 45) (.tmp 47), none⟩, ⟨(some 49), .nilck (.tmp 30), none⟩, ⟨(some 50), .faddr 2 (.tmp 49), none⟩, ⟨(some 51), .faddr 2 (.tmp 50), none⟩, ⟨none, .store 1 (.tmp 51) (.tmp 40), none⟩, ⟨(some 52), .nilck (.tmp 31), none⟩, ⟨(some 53), .faddr 2 (.tmp 52), none⟩, ⟨(some 54), .faddr 3 (.tmp 53), none⟩, ⟨none, .store 1 (.tmp 54) (.tmp 48), none⟩]
def H46_0 : List DP := [⟨0, [0]⟩, ⟨0, [0]⟩, ⟨0, [0]⟩, ⟨4, [32]⟩, ⟨12, [33]⟩, ⟨28, [34]⟩, ⟨60, [35]⟩, ⟨0, [3]⟩, ⟨128, [37]⟩, ⟨384, [38]⟩, ⟨1020, [36, 39]⟩, ⟨0, [0]⟩, ⟨2048, [41]⟩, ⟨6144, [42]⟩, ⟨14336, [43]⟩, ⟨30720, [44]⟩, ⟨0, [4]⟩, ⟨65536, [46]⟩, ⟨262140, [45, 47]⟩, ⟨524285, [30]⟩, ⟨1048573, [49]⟩, ⟨2097149, [50]⟩, ⟨4194301, [51, 40]⟩, ⟨8388607, [31]⟩, ⟨16777215, [52]⟩, ⟨33554431, [53]⟩, ⟨67108863, [54, 48]⟩]
def Fin46 (E : List (Nat × Blk)) : St → Ans := fun s => resK E s [(.tmp 2)] fun l => some (oneV l, s.σ)
def C46_0 : XC := (.seq (.ops (.p 2 [] (.mov (.con (V.bool false))) <|
 .nil))
 (.seq (.ops (.m 6 0 <|
 .p 7 [6] (.nilck (.t 6)) <|
 .p 8 [7] (.faddr 0 (.t 7)) <|
 .op (some 9) (.agg [.i, .str, .i]) [8] (.call 74 [(.t 8)]) <|
 .p 3 [] (.alloc 116 [(V.int .i64 (Int.ofNat 0)), (V.str ⟨0, 0⟩), (V.int .i64 (Int.ofNat 0))]) <|
 .op none (.agg [.i, .str, .i]) [3, 9] (.store 3 (.t 3) (.t 9)) <|
 .nil))
 (.seq (.seq (.ops (.m 10 0 <|
 .p 11 [10] (.nilck (.t 10)) <|
 .p 12 [11] (.faddr 2 (.t 11)) <|
 .p 13 [12] (.faddr 2 (.t 12)) <|
 .p 14 [13] (.load none (.t 13)) <|
 .p 15 [14] (.len false (.t 14)) <|
 .p 16 [15] (.bin .geq .none (.t 15) (.i 40)) <|
 .nil))
 (.cond (.tmp 16) (.seq (.ops (.m 17 0 <|
 .p 18 [3] (.faddr 2 (.t 3)) <|
 .op (some 19) .i [18] (.load none (.t 18)) <|
 .op (some 20) .bool [17, 19] (.call 73 [(.t 17), (.t 19), (.i 5)]) <|
 .m 2 20 <|
 .nil))
 .ret)
 .skip))
 (.seq (.seq (.ops (.m 21 0 <|
 .p 22 [] (.buildSlice 9 1 [(V.str ⟨0, 0⟩)] [(0, 1, (.con (V.str ⟨3, 4012602⟩)))]) <|
 .op (some 23) .bool [21, 22] (.call 43 [(.t 21), (.t 22)]) <|
 .p 24 [23] (.un .not (.t 23)) <|
 .nil))
 (.cond (.tmp 24) (.seq (.ops (.p 2 [] (.mov (.con (V.bool false))) <|
 .nil))
 .ret)
 .skip))
 (.seq (.ops (.m 26 0 <|
 .op (some 27) (.tup [.i, .bool]) [26] (.call 76 [(.t 26), (.i 0)]) <|
 .m 25 27 <|
 .p 28 [25] (.extract 0 (.t 25)) <|
 .p 29 [25] (.extract 1 (.t 25)) <|
 .m 4 28 <|
 .m 5 29 <|
 .nil))
 (.seq (.keep [(0, .ptr), (3, .ptr), (4, .i), (5, .bool)] [] [] (.gdraw G46_0 H46_0 [(5, .bool)]))
 (.seq (.ops (.m 55 5 <|
 .m 2 55 <|
 .nil))
 .ret)))))))
def T46_0 (v0b : Nat) (v0o : Nat) (σ : H) : Ans :=
 callK (D 74 [(V.ptr v0b v0o)] σ) fun u1 s2 =>
 rtAgg u1 fun l3 =>
 rtCons l3 fun x4 l5 =>
 rtInt .i64 x4 fun x6 =>
 rtCons l5 fun x7 l8 =>
 rtStr x7 fun x9 =>
 rtCons l8 fun x10 l11 =>
 rtInt .i64 x10 fun x12 =>
 rtNil l11 (
 let s13 := newB s2 (.cells [(V.int .i64 (Int.ofNat 0)), (V.str ⟨0, 0⟩), (V.int .i64 (Int.ofNat 0))]);
 stK 3 (H.next s2) 0 (V.agg [(V.int .i64 x6), (V.str x9), (V.int .i64 x12)]) s13 fun s14 =>
 ldK E s14 v0b (Nat.add (Nat.add v0o 2) 2) fun u15 =>
 slenK u15 fun n16 =>
 condK (leF (Int.ofNat 40) (Int.ofNat n16)) (
 ldK E s14 (H.next s2) 2 fun u17 =>
 rtInt .i64 u17 fun x18 =>
 callK (D 73 [(V.ptr v0b v0o), (V.int .i64 x18), (V.int .i64 (Int.ofNat 5))] s14) fun u19 s20 =>
 rtBool u19 fun x21 =>
 some ((V.bool x21), s20)) (
 let s22 := newB s14 (.cells [(V.str (BS.mk 3 4012602))]);
 callK (D 43 [(V.ptr v0b v0o), (V.sl (H.next s14) 0 1 (.ex 1))] s22) fun u23 s24 =>
 rtBool u23 fun x25 =>
 condK (not x25) (
 some ((V.bool false), s24)) (
 callK (D 76 [(V.ptr v0b v0o), (V.int .i64 (Int.ofNat 0))] s24) fun u26 s27 =>
 rtTup u26 fun l28 =>
 rtCons l28 fun x29 l30 =>
 rtInt .i64 x29 fun x31 =>
 rtCons l30 fun x32 l33 =>
 rtBool x32 fun x34 =>
 rtNil l33 (
 gdrawK (W G46_0 H46_0 [(0, (V.ptr v0b v0o)), (3, (V.ptr (H.next s2) 0)), (4, (V.int .i64 x31)), (5, (V.bool x34))] s27) fun e35 s36 =>
 getL e35 5 fun u37 =>
 rtBool u37 fun x38 =>
 some ((V.bool x38), s36)))))
theorem P46_0 (v0b : Nat) (v0o : Nat) (σ : H) :
  denC E D W N (C46_0 ) ⟨[(0, (V.ptr v0b v0o))], [], [], σ⟩ (Fin46 E) (fun _ _ => none) (Fin46 E) =
  T46_0 E D W  v0b v0o σ := by kernel_rfl
def J46_0 (E : List (Nat × Blk)) (D : Den) (W : DrawFn) (N : Nat) : Nat → Nat → H → Ans := T46_0 E D W 
theorem JE46_0 (v0b : Nat) (v0o : Nat) (σ : H) :
  denC E D W N C46_0 ⟨[(0, (V.ptr v0b v0o))], [], [], σ⟩ (Fin46 E) (fun _ _ => none) (Fin46 E) = J46_0 E D W N v0b v0o σ := by
  refine (P46_0 E D W N   v0b v0o σ).trans ?_
  kernel_rfl
def F46 (args : List V) (σ : H) : Ans :=
 rtCons args fun x1 l2 =>
 rtPtr x1 fun b3 o4 =>
 rtNil l2 (
 J46_0 E D W N b3 o4 σ)
def A46 : XFn := ⟨56, [.ptr], [(.tmp 2)], C46_0⟩
theorem FE46 (args : List V) (σ : H) : runX E D W N A46 args σ = F46 E D W N args σ := by
  unfold F46
  simp only [← JE46_0]
  kernel_rfl
theorem AO46 : A46.body.ok = true := by kernel_rfl

def C47_0 (cc1 : XC) (cc2 : XC) : XC := (.seq (.ops (.p 2 [0] (.box 60 (.t 0)) <|
 .p 4 [] (.mov (.con V.nils)) <|
 .nil))
 (.seq (.ops (.p 5 [] (.mov (.con V.nils)) <|
 .nil))
 (.seq (.seq (.ops (.op (some 9) (.agg [.str, .i, .any, .any, .any]) [2] (.load (some 5) (.t 2)) <|
 .m 10 1 <|
 .op (some 11) .one [9, 10] (.call 77 [(.t 9), (.t 10)]) <|
 .p 12 [11] (.len false (.t 11)) <|
 .p 13 [] (.mov (.i 0)) <|
 .nil))
 (.block 0 (.loop [(2, .ptr), (5, .any), (11, .any), (12, .i), (13, .i)] [] [] cc2)))
 (.keep [(5, .any)] [] [] cc1))))
def C47_1 : XC := (.seq (.ops (.m 27 5 <|
 .m 4 27 <|
 .nil))
 .ret)
def C47_2 (cc3 : XC) : XC := (.seq (.ops (.p 14 [13, 12] (.bin .lss .none (.t 13) (.t 12)) <|
 .nil))
 (.seq (.cond (.tmp 14) .skip
 (.exit 0))
 (.seq (.block 1 (.seq (.ops (.p 15 [11, 13] (.iaddrS 1 (.t 11) (.t 13)) <|
 .op (some 16) .str [15] (.load none (.t 15)) <|
 .m 7 16 <|
 .nil))
 (.seq (.ops (.op (some 17) (.agg [.str, .i, .any, .any, .any]) [2] (.load (some 5) (.t 2)) <|
 .m 18 7 <|
 .op (some 19) .i [17, 18] (.call 53 [(.t 17), (.t 18)]) <|
 .m 8 19 <|
 .nil))
 (.seq (.ops (.m 20 8 <|
 .p 21 [20] (.bin .geq .none (.t 20) (.i 0)) <|
 .nil))
 (.cond (.tmp 21) (.ops (.m 22 5 <|
 .m 23 8 <|
 .p 24 [23] (.buildSlice 3 1 [(V.int .i64 (Int.ofNat 0))] [(0, 1, (.t 23))]) <|
 .op (some 25) .one [22, 24] (.append 3 1 8 (.t 22) (.t 24)) <|
 .m 5 25 <|
 .nil))
 .skip)))))
 (.keep [(2, .ptr), (5, .any), (11, .any), (12, .i), (13, .i)] [] [] cc3))))
def C47_3 : XC := (.ops (.p 26 [13] (.bin .add .none (.t 13) (.i 1)) <|
 .m 13 26 <|
 .nil))
def A47 : XFn := ⟨28, [(.agg [.str, .i, .any, .any, .any]), .i], [(.tmp 4)], (C47_0 C47_1 (C47_2 C47_3))⟩
def C48_0 : XC := (.seq (.ops (.p 2 [0] (.box 60 (.t 0)) <|
 .p 4 [] (.mov (.i 0)) <|
 .nil))
 (.seq (.seq (.ops (.m 5 1 <|
 .p 6 [2] (.faddr 3 (.t 2)) <|
 .p 7 [6] (.load none (.t 6)) <|
 .p 8 [7] (.len false (.t 7)) <|
 .p 9 [5, 8] (.bin .geq .none (.t 5) (.t 8)) <|
 .nil))
 (.cond (.tmp 9) (.seq (.ops (.p 4 [] (.mov (.con (V.int .i64 (Int.negSucc 0)))) <|
 .nil))
 .ret)
 .skip))
 (.seq (.ops (.p 10 [2] (.faddr 3 (.t 2)) <|
 .p 11 [10] (.load none (.t 10)) <|
 .m 12 1 <|
 .p 13 [11, 12] (.iaddrS 1 (.t 11) (.t 12)) <|
 .op (some 14) .i [13] (.load none (.t 13)) <|
 .m 4 14 <|
 .nil))
 .ret)))
def A48 : XFn := ⟨15, [(.agg [.str, .i, .any, .any, .any]), .i], [(.tmp 4)], C48_0⟩
def G49_0 : List AOper := [⟨(some 32), .load (some 5) (.tmp 2), none⟩, ⟨(some 33), .load (some 5) (.tmp 2), none⟩, ⟨(some 34), .mov (.tmp 8), none⟩, ⟨(some 35), .call 48 [(.tmp 33), (.tmp 34)], none⟩, ⟨(some 36), .call 78 [(.tmp 32), (.tmp 35)], none⟩]
def H49_0 : List DP := [⟨0, [2]⟩, ⟨0, [2]⟩, ⟨0, [8]⟩, ⟨6, [33, 34]⟩, ⟨15, [32, 35]⟩]
def C49_0 (cc1 : XC) (cc2 : XC) : XC := (.seq (.ops (.p 2 [0] (.box 60 (.t 0)) <|
 .p 4 [] (.mov (.i 0)) <|
 .p 5 [] (.mov (.i 0)) <|
 .nil))
 (.seq (.seq (.ops (.p 11 [2] (.faddr 2 (.t 2)) <|
 .p 12 [11] (.load none (.t 11)) <|
 .p 13 [12] (.len false (.t 12)) <|
 .p 14 [] (.mov (.i 0)) <|
 .nil))
 (.block 0 (.loop [(1, .any), (2, .ptr), (12, .any), (13, .i), (14, .i)] [] [] cc2)))
 (.keep [(1, .any), (2, .ptr)] [] [] cc1)))
def C49_1 (cc3 : XC) (cc4 : XC) : XC := (.seq (.seq (.ops (.p 26 [2] (.faddr 2 (.t 2)) <|
 .p 27 [26] (.load none (.t 26)) <|
 .p 28 [27] (.len false (.t 27)) <|
 .p 29 [] (.mov (.i 0)) <|
 .nil))
 (.block 2 (.loop [(1, .any), (2, .ptr), (28, .i), (29, .i)] [] [] cc4)))
 (.keep [(1, .any), (2, .ptr)] [] [] cc3))
def C49_2 : XC := (.seq (.ops (.p 15 [14, 13] (.bin .lss .none (.t 14) (.t 13)) <|
 .nil))
 (.seq (.cond (.tmp 15) .skip
 (.exit 0))
 (.seq (.block 1 (.seq (.ops (.m 16 14 <|
 .p 17 [12, 14] (.iaddrS 1 (.t 12) (.t 14)) <|
 .op (some 18) .str [17] (.load none (.t 17)) <|
 .m 6 16 <|
 .m 7 18 <|
 .nil))
 (.seq (.ops (.op (some 19) (.agg [.str, .i, .any, .any, .any]) [2] (.load (some 5) (.t 2)) <|
 .m 20 7 <|
 .op (some 21) .i [19, 20] (.call 53 [(.t 19), (.t 20)]) <|
 .m 22 6 <|
 .p 23 [21, 22] (.bin .lss .none (.t 21) (.t 22)) <|
 .nil))
 (.cond (.tmp 23) (.seq (.ops (.m 24 6 <|
 .m 4 24 <|
 .p 5 [] (.mov (.i 8)) <|
 .nil))
 .ret)
 .skip))))
 (.ops (.p 25 [14] (.bin .add .none (.t 14) (.i 1)) <|
 .m 14 25 <|
 .nil)))))
def C49_3 (cc5 : XC) (cc6 : XC) : XC := (.seq (.seq (.ops (.p 39 [2] (.faddr 2 (.t 2)) <|
 .p 40 [39] (.load none (.t 39)) <|
 .p 41 [40] (.len false (.t 40)) <|
 .p 42 [] (.mov (.i 0)) <|
 .nil))
 (.block 4 (.loop [(1, .any), (2, .ptr), (41, .i), (42, .i)] [] [] cc6)))
 (.keep [] [] [] cc5))
def C49_4 : XC := (.seq (.ops (.p 30 [29, 28] (.bin .lss .none (.t 29) (.t 28)) <|
 .nil))
 (.seq (.cond (.tmp 30) .skip
 (.exit 2))
 (.seq (.block 3 (.seq (.ops (.m 31 29 <|
 .m 8 31 <|
 .nil))
 (.seq (.keep [(1, .any), (2, .ptr), (8, .i), (28, .i), (29, .i)] [] [] (.gdraw G49_0 H49_0 [(1, .any), (2, .ptr), (8, .i), (28, .i), (29, .i), (36, .bool)]))
 (.cond (.tmp 36) (.seq (.ops (.m 37 8 <|
 .m 4 37 <|
 .p 5 [] (.mov (.i 9)) <|
 .nil))
 .ret)
 .skip))))
 (.ops (.p 38 [29] (.bin .add .none (.t 29) (.i 1)) <|
 .m 29 38 <|
 .nil)))))
def C49_5 : XC := (.seq (.ops (.p 4 [] (.mov (.i 0)) <|
 .p 5 [] (.mov (.i 0)) <|
 .nil))
 .ret)
def C49_6 : XC := (.seq (.ops (.p 43 [42, 41] (.bin .lss .none (.t 42) (.t 41)) <|
 .nil))
 (.seq (.cond (.tmp 43) .skip
 (.exit 4))
 (.seq (.block 5 (.seq (.ops (.m 44 42 <|
 .m 9 44 <|
 .nil))
 (.seq (.ops (.p 45 [2] (.faddr 2 (.t 2)) <|
 .p 46 [45] (.load none (.t 45)) <|
 .p 47 [46] (.len false (.t 46)) <|
 .p 48 [47, 47] (.mkslice 4 1 1 [(V.bool false)] (.t 47) (.t 47)) <|
 .m 10 48 <|
 .nil))
 (.seq (.ops (.m 49 1 <|
 .m 50 9 <|
 .m 51 10 <|
 .op (some 52) (.tup []) [49, 50, 51] (.call 79 [(.t 49), (.t 50), (.t 51)]) <|
 .nil))
 (.seq (.ops (.m 53 10 <|
 .m 54 9 <|
 .p 55 [53, 54] (.iaddrS 1 (.t 53) (.t 54)) <|
 .op (some 56) .bool [55] (.load none (.t 55)) <|
 .nil))
 (.cond (.tmp 56) (.seq (.ops (.m 57 9 <|
 .m 4 57 <|
 .p 5 [] (.mov (.i 10)) <|
 .nil))
 .ret)
 .skip))))))
 (.ops (.p 58 [42] (.bin .add .none (.t 42) (.i 1)) <|
 .m 42 58 <|
 .nil)))))
def A49 : XFn := ⟨59, [(.agg [.str, .i, .any, .any, .any]), .any], [(.tmp 4), (.tmp 5)], (C49_0 (C49_1 (C49_3 C49_5 C49_6) C49_4) C49_2)⟩
def C50_0 : XC := (.seq (.ops (.p 4 [] (.mov (.con (V.bool false))) <|
 .nil))
 (.seq (.ops (.m 5 0 <|
 .m 6 1 <|
 .op (some 7) .i [5, 6] (.call 80 [(.t 5), (.t 6)]) <|
 .p 8 [7] (.bin .geq .none (.t 7) (.i 0)) <|
 .m 4 8 <|
 .nil))
 .ret))
def A50 : XFn := ⟨9, [.any, .i], [(.tmp 4)], C50_0⟩
def C51_0 : XC := (.seq (.ops (.p 4 [] (.mov (.con (V.bool false))) <|
 .nil))
 (.seq (.ops (.m 5 0 <|
 .m 6 1 <|
 .op (some 7) .i [5, 6] (.call 81 [(.t 5), (.t 6)]) <|
 .p 8 [7] (.bin .geq .none (.t 7) (.i 0)) <|
 .m 4 8 <|
 .nil))
 .ret))
def A51 : XFn := ⟨9, [.any, .any], [(.tmp 4)], C51_0⟩
def C53_0 : XC := (.seq (.ops (.p 2 [0] (.box 60 (.t 0)) <|
 .p 4 [] (.mov (.i 0)) <|
 .nil))
 (.seq (.ops (.p 5 [2] (.faddr 2 (.t 2)) <|
 .p 6 [5] (.load none (.t 5)) <|
 .m 7 1 <|
 .op (some 8) .i [6, 7] (.call 61 [(.t 6), (.t 7)]) <|
 .m 4 8 <|
 .nil))
 .ret))
def A53 : XFn := ⟨9, [(.agg [.str, .i, .any, .any, .any]), .str], [(.tmp 4)], C53_0⟩
def G54_0 : List AOper := [⟨(some 86), .mov (.tmp 0), none⟩, ⟨(some 87), .nilck (.tmp 86), none⟩, ⟨(some 88), .faddr 0 (.tmp 87), none⟩, ⟨(some 89), .faddr 0 (.tmp 88), none⟩, ⟨(some 90), .load none (.tmp 89), none⟩, ⟨(some 91), .mov (.tmp 9), none⟩, ⟨(some 92), .load (some 16) (.tmp 4), none⟩, ⟨(some 93), .call 85 [(.tmp 92)], none⟩, ⟨(some 85), .mov (.tmp 93), none⟩, ⟨(some 94), .extract 0 (.tmp 85), none⟩, ⟨(some 95), .extract 1 (.tmp 85), none⟩, ⟨(some 96), .iaddrS 13 (.tmp 90) (.tmp 91), none⟩, ⟨(some 97), .faddr 8 (.tmp 96), none⟩, ⟨none, .store 1 (.tmp 97) (.tmp 94), none⟩, ⟨(some 10), .mov (.tmp 95), none⟩]
def H54_0 : List DP := [⟨0, [0]⟩, ⟨1, [86]⟩, ⟨3, [87]⟩, ⟨7, [88]⟩, ⟨15, [89]⟩, ⟨0, [9]⟩, ⟨0, [4]⟩, ⟨64, [92]⟩, ⟨192, [93]⟩, ⟨448, [85]⟩, ⟨448, [85]⟩, ⟨1023, [90, 91]⟩, ⟨3071, [96]⟩, ⟨7167, [97, 94]⟩, ⟨16383, [95]⟩]
def C54_0 (cc1 : XC) : XC := (.seq (.ops (.p 4 [1] (.box 136 (.t 1)) <|
 .p 6 [] (.mov (.i 0)) <|
 .p 7 [] (.mov (.i 0)) <|
 .nil))
 (.seq (.seq (.ops (.m 12 2 <|
 .p 13 [12] (.bin .gtr .none (.t 12) (.i 16)) <|
 .m 14 13 <|
 .grp 14 false (.p 15 [0, 14] (.mov (.t 0)) <|
 .p 16 [15, 14] (.nilck (.t 15)) <|
 .p 17 [16, 14] (.faddr 0 (.t 16)) <|
 .p 18 [17, 14] (.faddr 0 (.t 17)) <|
 .p 19 [18, 14] (.load none (.t 18)) <|
 .p 20 [19, 14] (.len false (.t 19)) <|
 .p 21 [20, 14] (.bin .geq .none (.t 20) (.i 300)) <|
 .nil) 22 [14, 21] (.t 14) (.con (V.bool true)) (.t 21) <|
 .nil))
 (.cond (.tmp 22) (.seq (.ops (.p 6 [] (.mov (.i 0)) <|
 .p 7 [] (.mov (.i 5)) <|
 .nil))
 .ret)
 .skip))
 (.seq (.ops (.p 23 [4] (.faddr 0 (.t 4)) <|
 .op (some 24) .i [23] (.load none (.t 23)) <|
 .p 25 [4] (.faddr 5 (.t 4)) <|
 .op (some 26) (.agg [.bool, .bool, .bool, .bool, .i, .i]) [25] (.load (some 6) (.t 25)) <|
 .p 27 [4] (.faddr 13 (.t 4)) <|
 .op (some 28) .i [27] (.load none (.t 27)) <|
 .p 29 [4] (.faddr 14 (.t 4)) <|
 .op (some 30) .bool [29] (.load none (.t 29)) <|
 .op (some 31) (.agg [.i, .any, .bool, .bool, .bool, .bool, .i, .i, .any, .any, .i, .bool, .i]) [24, 26, 28, 30] (.build [(V.int .i64 (Int.ofNat 0)), V.nils, (V.bool false), (V.bool false), (V.bool false), (V.bool false), (V.int .i64 (Int.ofNat 0)), (V.int .i64 (Int.ofNat 0)), V.nils, V.nils, (V.int .i64 (Int.ofNat 0)), (V.bool false), (V.int .i64 (Int.ofNat 0))] [(0, 1, (.t 24)), (2, 6, (.t 26)), (10, 1, (.t 28)), (11, 1, (.t 30))]) <|
 .pal 8 [] 167 [(V.int .i64 (Int.ofNat 0)), V.nils, (V.bool false), (V.bool false), (V.bool false), (V.bool false), (V.int .i64 (Int.ofNat 0)), (V.int .i64 (Int.ofNat 0)), V.nils, V.nils, (V.int .i64 (Int.ofNat 0)), (V.bool false), (V.int .i64 (Int.ofNat 0))] <|
 .op none (.agg [.i, .any, .bool, .bool, .bool, .bool, .i, .i, .any, .any, .i, .bool, .i]) [8, 31] (.store 13 (.t 8) (.t 31)) <|
 .nil))
 (.seq (.seq (.ops (.p 32 [4] (.faddr 0 (.t 4)) <|
 .op (some 33) .i [32] (.load none (.t 32)) <|
 .p 34 [33] (.bin .neq .none (.t 33) (.i 9)) <|
 .nil))
 (.cond (.tmp 34) (.ops (.p 35 [4] (.faddr 0 (.t 4)) <|
 .op (some 36) .i [35] (.load none (.t 35)) <|
 .op (some 37) (.agg [.i, .i]) [36] (.call 82 [(.t 36)]) <|
 .p 38 [37] (.buildSlice 169 1 [(V.int .i64 (Int.ofNat 0)), (V.int .i64 (Int.ofNat 0))] [(0, 2, (.t 37))]) <|
 .p 39 [8] (.faddr 1 (.t 8)) <|
 .op none .any [39, 38] (.store 1 (.t 39) (.t 38)) <|
 .nil))
 .skip))
 (.keep [(0, .ptr), (2, .i), (4, .ptr)] [8] [(8, [.i, .any, .bool, .bool, .bool, .bool, .i, .i, .any, .any, .i, .bool, .i])] cc1)))))
def C54_1 (cc2 : XC) (cc3 : XC) : XC := (.seq (.draw (.m 40 0 <|
 .p 41 [40] (.nilck (.t 40)) <|
 .p 42 [41] (.faddr 0 (.t 41)) <|
 .op (some 43) (.agg [.i, .any, .bool, .bool, .bool, .bool, .i, .i, .any, .any, .i, .bool, .i]) [8] (.load (some 13) (.t 8)) <|
 .op (some 44) .i [42, 43] (.call 83 [(.t 42), (.t 43)]) <|
 .m 9 44 <|
 .nil) [0, 1, 3, 0, 15, 31])
 (.seq (.ops (.p 10 [] (.mov (.i 0)) <|
 .nil))
 (.seq (.seq (.ops (.p 45 [4] (.faddr 0 (.t 4)) <|
 .op (some 46) .i [45] (.load none (.t 45)) <|
 .nil))
 (.block 0 (.seq (.ops (.p 48 [46] (.bin .eql .none (.t 46) (.i 2)) <|
 .m 47 48 <|
 .nil))
 (.cond (.tmp 47) (.ops (.p 49 [4] (.faddr 5 (.t 4)) <|
 .op (some 50) (.agg [.bool, .bool, .bool, .bool, .i, .i]) [49] (.load (some 6) (.t 49)) <|
 .op (some 51) .i [50] (.call 84 [(.t 50), (.con (V.bool false))]) <|
 .m 10 51 <|
 .nil))
 (.seq (.seq (.ops (.p 53 [46] (.bin .eql .none (.t 46) (.i 5)) <|
 .m 52 53 <|
 .nil))
 (.cond (.tmp 52) .skip
 (.ops (.p 54 [46] (.bin .eql .none (.t 46) (.i 6)) <|
 .m 52 54 <|
 .nil))))
 (.keep [(0, .ptr), (2, .i), (4, .ptr), (9, .i), (10, .i), (46, .i), (52, .bool)] [] [] cc3))))))
 (.keep [(9, .i), (10, .i)] [] [] cc2))))
def C54_2 : XC := (.seq (.ops (.m 107 9 <|
 .m 108 10 <|
 .m 6 107 <|
 .m 7 108 <|
 .nil))
 .ret)
def C54_3 (cc4 : XC) : XC := (.cond (.tmp 52) (.ops (.p 55 [4] (.faddr 5 (.t 4)) <|
 .op (some 56) (.agg [.bool, .bool, .bool, .bool, .i, .i]) [55] (.load (some 6) (.t 55)) <|
 .op (some 57) .i [56] (.call 84 [(.t 56), (.con (V.bool true))]) <|
 .m 10 57 <|
 .nil))
 (.seq (.ops (.p 59 [46] (.bin .eql .none (.t 46) (.i 10)) <|
 .m 58 59 <|
 .nil))
 (.cond (.tmp 58) (.seq (.ops (.p 60 [4] (.faddr 5 (.t 4)) <|
 .op (some 61) (.agg [.bool, .bool, .bool, .bool, .i, .i]) [60] (.load (some 6) (.t 60)) <|
 .op (some 62) .i [61] (.call 84 [(.t 61), (.con (V.bool true))]) <|
 .m 10 62 <|
 .nil))
 (.seq (.ops (.m 63 10 <|
 .p 64 [63] (.bin .eql .none (.t 63) (.i 0)) <|
 .nil))
 (.cond (.tmp 64) (.seq (.ops (.p 11 [] (.mov (.i 0)) <|
 .nil))
 (.seq (.ops (.m 66 0 <|
 .p 67 [4] (.faddr 15 (.t 4)) <|
 .op (some 68) .i [67] (.load none (.t 67)) <|
 .m 69 2 <|
 .p 70 [69] (.bin .add .none (.t 69) (.i 1)) <|
 .op (some 71) (.tup [.i, .i]) [66, 68, 70] (.call 28 [(.t 66), (.t 68), (.t 70)]) <|
 .m 65 71 <|
 .p 72 [65] (.extract 0 (.t 65)) <|
 .p 73 [65] (.extract 1 (.t 65)) <|
 .m 11 72 <|
 .m 10 73 <|
 .nil))
 (.ops (.m 74 0 <|
 .p 75 [74] (.nilck (.t 74)) <|
 .p 76 [75] (.faddr 0 (.t 75)) <|
 .p 77 [76] (.faddr 0 (.t 76)) <|
 .p 78 [77] (.load none (.t 77)) <|
 .m 79 9 <|
 .m 80 11 <|
 .p 81 [78, 79] (.iaddrS 13 (.t 78) (.t 79)) <|
 .p 82 [81] (.faddr 12 (.t 81)) <|
 .op none .any [82, 80] (.store 1 (.t 82) (.t 80)) <|
 .nil))))
 .skip)))
 (.seq (.ops (.p 84 [46] (.bin .eql .none (.t 46) (.i 3)) <|
 .m 83 84 <|
 .nil))
 (.cond (.tmp 83) (.keep [(0, .ptr), (4, .ptr), (9, .i)] [] [] (.gdraw G54_0 H54_0 [(9, .i), (10, .i)]))
 (.seq (.seq (.ops (.p 99 [46] (.bin .eql .none (.t 46) (.i 7)) <|
 .m 98 99 <|
 .nil))
 (.cond (.tmp 98) .skip
 (.seq (.ops (.p 100 [46] (.bin .eql .none (.t 46) (.i 8)) <|
 .m 98 100 <|
 .nil))
 (.cond (.tmp 98) .skip
 (.ops (.p 101 [46] (.bin .eql .none (.t 46) (.i 9)) <|
 .m 98 101 <|
 .nil))))))
 (.keep [(0, .ptr), (2, .i), (4, .ptr), (9, .i), (10, .i), (98, .bool)] [] [] cc4)))))))
def C54_4 : XC := (.cond (.tmp 98) (.ops (.m 102 0 <|
 .m 103 9 <|
 .op (some 104) (.agg [.i, .str, .bool, .i, .i, .bool, .bool, .bool, .bool, .i, .i, .any, .any, .i, .bool, .i]) [4] (.load (some 16) (.t 4)) <|
 .m 105 2 <|
 .op (some 106) .i [102, 103, 104, 105] (.call 86 [(.t 102), (.t 103), (.t 104), (.t 105)]) <|
 .m 10 106 <|
 .nil))
 .skip)
def A54 : XFn := ⟨109, [.ptr, (.agg [.i, .str, .bool, .i, .i, .bool, .bool, .bool, .bool, .i, .i, .any, .any, .i, .bool, .i]), .i], [(.tmp 6), (.tmp 7)], (C54_0 (C54_1 C54_2 (C54_3 C54_4)))⟩
def C55_0 (cc1 : XC) : XC := (.seq (.ops (.p 5 [2] (.box 130 (.t 2)) <|
 .p 6 [] (.mov (.i 0)) <|
 .nil))
 (.seq (.seq (.ops (.p 8 [5] (.faddr 0 (.t 5)) <|
 .op (some 9) .bool [8] (.load none (.t 8)) <|
 .p 10 [9] (.un .not (.t 9)) <|
 .nil))
 (.cond (.tmp 10) (.seq (.ops (.p 6 [] (.mov (.i 0)) <|
 .nil))
 .ret)
 .skip))
 (.seq (.ops (.p 7 [] (.mov (.i 0)) <|
 .nil))
 (.seq (.block 0 (.seq (.ops (.p 12 [5] (.faddr 2 (.t 5)) <|
 .op (some 13) .i [12] (.load none (.t 12)) <|
 .p 14 [13] (.bin .eql .none (.t 13) (.i 2)) <|
 .m 11 14 <|
 .nil))
 (.cond (.tmp 11) (.ops (.p 7 [] (.mov (.i 1)) <|
 .nil))
 (.seq (.ops (.p 16 [5] (.faddr 2 (.t 5)) <|
 .op (some 17) .i [16] (.load none (.t 16)) <|
 .p 18 [17] (.bin .eql .none (.t 17) (.i 0)) <|
 .m 19 18 <|
 .grp 19 true (.p 20 [0, 19] (.mov (.t 0)) <|
 .p 21 [20, 19] (.nilck (.t 20)) <|
 .p 22 [21, 19] (.faddr 1 (.t 21)) <|
 .p 23 [22, 19] (.faddr 1 (.t 22)) <|
 .op (some 24) .i [23, 19] (.load none (.t 23)) <|
 .p 25 [24, 19] (.bin .neq .none (.t 24) (.i 0)) <|
 .nil) 26 [19, 25] (.t 19) (.t 25) (.con (V.bool false)) <|
 .m 15 26 <|
 .nil))
 (.cond (.tmp 15) (.ops (.m 27 0 <|
 .m 28 1 <|
 .op (some 29) .i [27, 28] (.call 87 [(.t 27), (.t 28)]) <|
 .m 7 29 <|
 .nil))
 .skip)))))
 (.keep [(0, .ptr), (1, .i), (5, .ptr), (7, .i)] [] [] cc1)))))
def C55_1 : XC := (.seq (.ops (.m 30 0 <|
 .m 31 1 <|
 .p 32 [5] (.faddr 1 (.t 5)) <|
 .op (some 33) .i [32] (.load none (.t 32)) <|
 .m 34 7 <|
 .op (some 35) .i [30, 31, 33, 34] (.call 88 [(.t 30), (.t 31), (.t 33), (.t 34)]) <|
 .m 6 35 <|
 .nil))
 .ret)
def A55 : XFn := ⟨36, [.ptr, .i, (.agg [.bool, .i, .i])], [(.tmp 6)], (C55_0 C55_1)⟩
def C56_0 : XC := (.seq (.ops (.p 3 [1] (.box 130 (.t 1)) <|
 .nil))
 (.seq (.seq (.ops (.p 4 [3] (.faddr 0 (.t 3)) <|
 .op (some 5) .bool [4] (.load none (.t 4)) <|
 .p 6 [5] (.un .not (.t 5)) <|
 .nil))
 (.cond (.tmp 6) .ret
 .skip))
 (.seq (.ops (.m 7 0 <|
 .p 8 [7] (.nilck (.t 7)) <|
 .p 9 [8] (.faddr 0 (.t 8)) <|
 .p 10 [] (.buildSlice 9 1 [(V.str ⟨0, 0⟩)] [(0, 1, (.con (V.str ⟨1, 91⟩)))]) <|
 .op (some 11) (.tup []) [9, 10] (.call 30 [(.t 9), (.t 10)]) <|
 .nil))
 (.seq (.draw (.m 12 0 <|
 .p 13 [12] (.nilck (.t 12)) <|
 .p 14 [13] (.faddr 0 (.t 13)) <|
 .p 15 [3] (.faddr 1 (.t 3)) <|
 .op (some 16) .i [15] (.load none (.t 15)) <|
 .op (some 17) (.tup []) [14, 16] (.call 89 [(.t 14), (.t 16)]) <|
 .nil) [0, 1, 3, 0, 8, 31])
 (.seq (.ops (.m 18 0 <|
 .p 19 [18] (.nilck (.t 18)) <|
 .p 20 [19] (.faddr 0 (.t 19)) <|
 .p 21 [] (.buildSlice 9 1 [(V.str ⟨0, 0⟩)] [(0, 1, (.con (V.str ⟨2, 8285⟩)))]) <|
 .op (some 22) (.tup []) [20, 21] (.call 30 [(.t 20), (.t 21)]) <|
 .nil))
 (.seq (.ops (.p 23 [3] (.faddr 2 (.t 3)) <|
 .op (some 24) .i [23] (.load none (.t 23)) <|
 .nil))
 (.block 0 (.seq (.ops (.p 26 [24] (.bin .eql .none (.t 24) (.i 1)) <|
 .m 25 26 <|
 .nil))
 (.cond (.tmp 25) (.ops (.m 27 0 <|
 .p 28 [27] (.nilck (.t 27)) <|
 .p 29 [28] (.faddr 0 (.t 28)) <|
 .p 30 [] (.buildSlice 9 1 [(V.str ⟨0, 0⟩)] [(0, 1, (.con (V.str ⟨9, 596369269913283483717⟩)))]) <|
 .op (some 31) (.tup []) [29, 30] (.call 30 [(.t 29), (.t 30)]) <|
 .nil))
 (.seq (.ops (.p 33 [24] (.bin .eql .none (.t 24) (.i 2)) <|
 .m 32 33 <|
 .nil))
 (.cond (.tmp 32) (.ops (.m 34 0 <|
 .p 35 [34] (.nilck (.t 34)) <|
 .p 36 [35] (.faddr 0 (.t 35)) <|
 .p 37 [] (.buildSlice 9 1 [(V.str ⟨0, 0⟩)] [(0, 1, (.con (V.str ⟨9, 596369269913283480905⟩)))]) <|
 .op (some 38) (.tup []) [36, 37] (.call 30 [(.t 36), (.t 37)]) <|
 .nil))
 .skip)))))))))))
def A56 : XFn := ⟨39, [.ptr, (.agg [.bool, .i, .i])], [], C56_0⟩
def C57_0 : XC := (.seq (.ops (.p 5 [1] (.box 132 (.t 1)) <|
 .nil))
 (.seq (.seq (.ops (.p 8 [5] (.faddr 0 (.t 5)) <|
 .op (some 9) .bool [8] (.load none (.t 8)) <|
 .p 10 [9] (.un .not (.t 9)) <|
 .nil))
 (.cond (.tmp 10) .ret
 .skip))
 (.seq (.ops (.m 11 0 <|
 .p 12 [11] (.nilck (.t 11)) <|
 .p 13 [12] (.faddr 0 (.t 12)) <|
 .m 14 2 <|
 .p 15 [14] (.buildSlice 9 1 [(V.str ⟨0, 0⟩)] [(0, 1, (.t 14))]) <|
 .op (some 16) (.tup []) [13, 15] (.call 30 [(.t 13), (.t 15)]) <|
 .nil))
 (.seq (.ops (.m 17 0 <|
 .op (some 18) (.agg [.bool, .bool, .bool, .bool, .i, .i]) [5] (.load (some 6) (.t 5)) <|
 .op (some 19) (.tup []) [17, 18] (.call 90 [(.t 17), (.t 18)]) <|
 .nil))
 (.ops (.m 20 0 <|
 .p 21 [20] (.nilck (.t 20)) <|
 .p 22 [21] (.faddr 0 (.t 21)) <|
 .m 23 3 <|
 .p 24 [23] (.buildSlice 9 1 [(V.str ⟨0, 0⟩)] [(0, 1, (.t 23))]) <|
 .op (some 25) (.tup []) [22, 24] (.call 30 [(.t 22), (.t 24)]) <|
 .nil))))))
def A57 : XFn := ⟨26, [.ptr, (.agg [.bool, .bool, .bool, .bool, .i, .i]), .str, .str], [], C57_0⟩
def C61_0 (cc1 : XC) (cc2 : XC) : XC := (.seq (.ops (.p 4 [] (.mov (.i 0)) <|
 .nil))
 (.seq (.seq (.ops (.m 6 0 <|
 .p 7 [6] (.len false (.t 6)) <|
 .p 8 [] (.mov (.i 0)) <|
 .nil))
 (.block 0 (.loop [(0, .any), (1, .str), (7, .i), (8, .i)] [] [] cc2)))
 (.keep [] [] [] cc1)))
def C61_1 : XC := (.seq (.ops (.p 4 [] (.mov (.con (V.int .i64 (Int.negSucc 0)))) <|
 .nil))
 .ret)
def C61_2 : XC := (.seq (.ops (.p 9 [8, 7] (.bin .lss .none (.t 8) (.t 7)) <|
 .nil))
 (.seq (.cond (.tmp 9) .skip
 (.exit 0))
 (.seq (.block 1 (.seq (.ops (.m 10 8 <|
 .m 5 10 <|
 .nil))
 (.seq (.ops (.m 11 1 <|
 .m 12 0 <|
 .m 13 5 <|
 .p 14 [12, 13] (.iaddrS 1 (.t 12) (.t 13)) <|
 .op (some 15) .str [14] (.load none (.t 14)) <|
 .p 16 [11, 15] (.bin .eql .none (.t 11) (.t 15)) <|
 .nil))
 (.cond (.tmp 16) (.seq (.ops (.m 17 5 <|
 .m 4 17 <|
 .nil))
 .ret)
 .skip))))
 (.ops (.p 18 [8] (.bin .add .none (.t 8) (.i 1)) <|
 .m 8 18 <|
 .nil)))))
def A61 : XFn := ⟨19, [.any, .str], [(.tmp 4)], (C61_0 C61_1 C61_2)⟩
def C62_0 : XC := (.seq (.ops (.p 2 [] (.mov (.con (V.bool false))) <|
 .nil))
 (.seq (.ops (.m 3 0 <|
 .m 4 0 <|
 .p 5 [3, 4] (.bin .neq .none (.t 3) (.t 4)) <|
 .m 2 5 <|
 .nil))
 .ret))
def A62 : XFn := ⟨6, [.str], [(.tmp 2)], C62_0⟩
/-! ### F64: __ogham_lex.reader_.peek -/
def Fin64 (E : List (Nat × Blk)) : St → Ans := fun s => resK E s [(.tmp 4)] fun l => some (oneV l, s.σ)
def C64_0 : XC := (.seq (.ops (.p 4 [] (.mov (.con (V.int .u8 (Int.ofNat 0)))) <|
 .nil))
 (.seq (.seq (.draw (.m 5 0 <|
 .p 6 [5] (.nilck (.t 5)) <|
 .p 7 [6] (.faddr 1 (.t 6)) <|
 .op (some 8) .i [7] (.load none (.t 7)) <|
 .m 9 1 <|
 .p 10 [8, 9] (.bin .add .none (.t 8) (.t 9)) <|
 .m 11 0 <|
 .p 12 [11] (.nilck (.t 11)) <|
 .p 13 [12] (.faddr 0 (.t 12)) <|
 .op (some 14) .str [13] (.load none (.t 13)) <|
 .p 15 [14] (.len true (.t 14)) <|
 .p 16 [10, 15] (.bin .geq .none (.t 10) (.t 15)) <|
 .nil) [0, 1, 3, 7, 0, 31, 0, 64, 192, 448, 960, 2047])
 (.cond (.tmp 16) (.seq (.ops (.p 4 [] (.mov (.con (V.int .u8 (Int.ofNat 0)))) <|
 .nil))
 .ret)
 .skip))
 (.seq (.draw (.m 17 0 <|
 .p 18 [17] (.nilck (.t 17)) <|
 .p 19 [18] (.faddr 0 (.t 18)) <|
 .op (some 20) .str [19] (.load none (.t 19)) <|
 .m 21 0 <|
 .p 22 [21] (.nilck (.t 21)) <|
 .p 23 [22] (.faddr 1 (.t 22)) <|
 .op (some 24) .i [23] (.load none (.t 23)) <|
 .m 25 1 <|
 .p 26 [24, 25] (.bin .add .none (.t 24) (.t 25)) <|
 .p 27 [20, 26] (.idxStr (.t 20) (.t 26)) <|
 .m 4 27 <|
 .nil) [0, 1, 3, 7, 0, 16, 48, 112, 0, 496, 1023, 2047])
 .ret)))
def T64_0 (E : List (Nat × Blk)) (D : Den) (W : DrawFn) (v0b : Nat) (v0o : Nat) (v1 : Int) (σ : H) : Ans :=
 ldK E σ v0b (Nat.add v0o 1) fun u1 =>
 rtInt .i64 u1 fun x2 =>
 ldK E σ v0b v0o fun u3 =>
 rtStr u3 fun x4 =>
 condK (leF (Int.ofNat (BS.len x4)) (addF .i64 x2 v1)) (
 some ((V.int .u8 (Int.ofNat 0)), σ)) (
 ldK E σ v0b v0o fun u5 =>
 rtStr u5 fun x6 =>
 ldK E σ v0b (Nat.add v0o 1) fun u7 =>
 rtInt .i64 u7 fun x8 =>
 idxStrX x6 (addF .i64 x8 v1) fun x9 =>
 some ((V.int .u8 x9), σ))
theorem P64_0 (v0b : Nat) (v0o : Nat) (v1 : Int) (σ : H) :
  denC E D W N (C64_0 ) ⟨[(0, (V.ptr v0b v0o)), (1, (V.int .i64 v1))], [], [], σ⟩ (Fin64 E) (fun _ _ => none) (Fin64 E) =
  T64_0 E D W  v0b v0o v1 σ := by kernel_rfl
def J64_0 (E : List (Nat × Blk)) (D : Den) (W : DrawFn) (N : Nat) : Nat → Nat → Int → H → Ans := T64_0 E D W 
theorem JE64_0 (v0b : Nat) (v0o : Nat) (v1 : Int) (σ : H) :
  denC E D W N C64_0 ⟨[(0, (V.ptr v0b v0o)), (1, (V.int .i64 v1))], [], [], σ⟩ (Fin64 E) (fun _ _ => none) (Fin64 E) = J64_0 E D W N v0b v0o v1 σ := by
  refine (P64_0 E D W N   v0b v0o v1 σ).trans ?_
  kernel_rfl
def F64 (args : List V) (σ : H) : Ans :=
 rtCons args fun x1 l2 =>
 rtPtr x1 fun b3 o4 =>
 rtCons l2 fun x5 l6 =>
 rtInt .i64 x5 fun x7 =>
 rtNil l6 (
 J64_0 E D W N b3 o4 x7 σ)
def A64 : XFn := ⟨28, [.ptr, .i], [(.tmp 4)], C64_0⟩
theorem FE64 (args : List V) (σ : H) : runX E D W N A64 args σ = F64 E D W N args σ := by
  unfold F64
  simp only [← JE64_0]
  kernel_rfl
theorem AO64 : A64.body.ok = true := by kernel_rfl

/-! ### F65: __ogham_lex.reader_.ahead -/
def Fin65 (E : List (Nat × Blk)) : St → Ans := fun s => resK E s [(.tmp 4)] fun l => some (oneV l, s.σ)
def C65_0 : XC := (.seq (.ops (.p 4 [] (.mov (.con (V.bool false))) <|
 .nil))
 (.seq (.draw (.m 5 0 <|
 .p 6 [5] (.nilck (.t 5)) <|
 .p 7 [6] (.faddr 0 (.t 6)) <|
 .op (some 8) .str [7] (.load none (.t 7)) <|
 .m 9 0 <|
 .p 10 [9] (.nilck (.t 9)) <|
 .p 11 [10] (.faddr 1 (.t 10)) <|
 .op (some 12) .i [11] (.load none (.t 11)) <|
 .p 13 [8, 12] (.sliceStr (.t 8) (some (.t 12)) none) <|
 .m 14 1 <|
 .op (some 15) .bool [13, 14] (.call 99 [(.t 13), (.t 14)]) <|
 .m 4 15 <|
 .nil) [0, 1, 3, 7, 0, 16, 48, 112, 255, 0, 1023, 2047])
 .ret))
def T65_0 (E : List (Nat × Blk)) (D : Den) (W : DrawFn) (v0b : Nat) (v0o : Nat) (v1 : BS) (σ : H) : Ans :=
 ldK E σ v0b v0o fun u1 =>
 rtStr u1 fun x2 =>
 ldK E σ v0b (Nat.add v0o 1) fun u3 =>
 rtInt .i64 u3 fun x4 =>
 sliceStrX x2 (some (V.int .i64 x4)) none fun t5 =>
 callK (D 99 [(V.str t5), (V.str v1)] σ) fun u6 s7 =>
 rtBool u6 fun x8 =>
 some ((V.bool x8), s7)
theorem P65_0 (v0b : Nat) (v0o : Nat) (v1 : BS) (σ : H) :
  denC E D W N (C65_0 ) ⟨[(0, (V.ptr v0b v0o)), (1, (V.str v1))], [], [], σ⟩ (Fin65 E) (fun _ _ => none) (Fin65 E) =
  T65_0 E D W  v0b v0o v1 σ := by kernel_rfl
def J65_0 (E : List (Nat × Blk)) (D : Den) (W : DrawFn) (N : Nat) : Nat → Nat → BS → H → Ans := T65_0 E D W 
theorem JE65_0 (v0b : Nat) (v0o : Nat) (v1 : BS) (σ : H) :
  denC E D W N C65_0 ⟨[(0, (V.ptr v0b v0o)), (1, (V.str v1))], [], [], σ⟩ (Fin65 E) (fun _ _ => none) (Fin65 E) = J65_0 E D W N v0b v0o v1 σ := by
  refine (P65_0 E D W N   v0b v0o v1 σ).trans ?_
  kernel_rfl
def F65 (args : List V) (σ : H) : Ans :=
 rtCons args fun x1 l2 =>
 rtPtr x1 fun b3 o4 =>
 rtCons l2 fun x5 l6 =>
 rtStr x5 fun x7 =>
 rtNil l6 (
 J65_0 E D W N b3 o4 x7 σ)
def A65 : XFn := ⟨16, [.ptr, .str], [(.tmp 4)], C65_0⟩
theorem FE65 (args : List V) (σ : H) : runX E D W N A65 args σ = F65 E D W N args σ := by
  unfold F65
  simp only [← JE65_0]
  kernel_rfl
theorem AO65 : A65.body.ok = true := by kernel_rfl

/-! ### F66: ogham_lex.letter -/
def Fin66 (E : List (Nat × Blk)) : St → Ans := fun s => resK E s [(.tmp 2)] fun l => some (oneV l, s.σ)
def C66_0 : XC := (.seq (.ops (.p 2 [] (.mov (.con (V.bool false))) <|
 .nil))
 (.seq (.ops (.m 3 0 <|
 .p 4 [3] (.bin .geq .none (.t 3) (.con (V.int .u8 (Int.ofNat 97)))) <|
 .m 5 4 <|
 .grp 5 true (.p 6 [0, 5] (.mov (.t 0)) <|
 .p 7 [6, 5] (.bin .leq .none (.t 6) (.con (V.int .u8 (Int.ofNat 122)))) <|
 .nil) 8 [5, 7] (.t 5) (.t 7) (.con (V.bool false)) <|
 .m 9 8 <|
 .grp 9 false (.p 10 [0, 9] (.mov (.t 0)) <|
 .p 11 [10, 9] (.bin .geq .none (.t 10) (.con (V.int .u8 (Int.ofNat 65)))) <|
 .p 12 [11, 9] (.mov (.t 11)) <|
 .grp 12 true (.p 13 [0, 12] (.mov (.t 0)) <|
 .p 14 [13, 12] (.bin .leq .none (.t 13) (.con (V.int .u8 (Int.ofNat 90)))) <|
 .nil) 15 [12, 14, 9] (.t 12) (.t 14) (.con (V.bool false)) <|
 .nil) 16 [9, 15] (.t 9) (.con (V.bool true)) (.t 15) <|
 .m 2 16 <|
 .nil))
 .ret))
def T66_0 (E : List (Nat × Blk)) (D : Den) (W : DrawFn) (v0 : Int) (σ : H) : Ans :=
 joinB (fun c1 s2 =>
 joinB (fun c4 s5 =>
 some ((V.bool c4), s5)) fun k6 =>
 condK c1 (
 k6 true s2) (
 joinB (fun c7 s8 =>
 k6 c7 s8) fun k9 =>
 condK (leF (Int.ofNat 65) v0) (
 k9 (leF v0 (Int.ofNat 90)) s2) (
 k9 false s2))) fun k3 =>
 condK (leF (Int.ofNat 97) v0) (
 k3 (leF v0 (Int.ofNat 122)) σ) (
 k3 false σ)
theorem P66_0 (v0 : Int) (σ : H) :
  denC E D W N (C66_0 ) ⟨[(0, (V.int .u8 v0))], [], [], σ⟩ (Fin66 E) (fun _ _ => none) (Fin66 E) =
  T66_0 E D W  v0 σ := by kernel_rfl
def J66_0 (E : List (Nat × Blk)) (D : Den) (W : DrawFn) (N : Nat) : Int → H → Ans := T66_0 E D W 
theorem JE66_0 (v0 : Int) (σ : H) :
  denC E D W N C66_0 ⟨[(0, (V.int .u8 v0))], [], [], σ⟩ (Fin66 E) (fun _ _ => none) (Fin66 E) = J66_0 E D W N v0 σ := by
  refine (P66_0 E D W N   v0 σ).trans ?_
  kernel_rfl
def F66 (args : List V) (σ : H) : Ans :=
 rtCons args fun x1 l2 =>
 rtInt .u8 x1 fun x3 =>
 rtNil l2 (
 J66_0 E D W N x3 σ)
def A66 : XFn := ⟨17, [(.int .u8)], [(.tmp 2)], C66_0⟩
theorem FE66 (args : List V) (σ : H) : runX E D W N A66 args σ = F66 E D W N args σ := by
  unfold F66
  simp only [← JE66_0]
  kernel_rfl
theorem AO66 : A66.body.ok = true := by kernel_rfl

/-! ### F67: __ogham_lex.lexer_.name -/
def Fin67 (E : List (Nat × Blk)) : St → Ans := fun s => resK E s [(.tmp 2), (.tmp 3)] fun l => some (oneV l, s.σ)
def C67_0 (cc1 : XC) (cc2 : XC) : XC := (.seq (.ops (.p 2 [] (.mov (.i 0)) <|
 .p 3 [] (.mov (.con (V.str ⟨0, 0⟩))) <|
 .nil))
 (.seq (.ops (.m 7 0 <|
 .p 8 [7] (.nilck (.t 7)) <|
 .p 9 [8] (.faddr 0 (.t 8)) <|
 .p 10 [9] (.faddr 1 (.t 9)) <|
 .op (some 11) .i [10] (.load none (.t 10)) <|
 .m 4 11 <|
 .nil))
 (.seq (.seq (.ops (.m 12 0 <|
 .p 13 [12] (.nilck (.t 12)) <|
 .p 14 [13] (.faddr 0 (.t 13)) <|
 .op (some 15) (.int .u8) [14] (.call 64 [(.t 14), (.i 0)]) <|
 .m 5 15 <|
 .nil))
 (.block 0 (.loop [(0, .ptr), (4, .i), (5, (.int .u8))] [] [] cc2)))
 (.keep [(0, .ptr), (4, .i)] [] [] cc1))))
def T67_0 (E : List (Nat × Blk)) (D : Den) (W : DrawFn) (K2 : Nat → Nat → Int → Int → H → Ans) (v0b : Nat) (v0o : Nat) (σ : H) : Ans :=
 ldK E σ v0b (Nat.add v0o 1) fun u1 =>
 rtInt .i64 u1 fun x2 =>
 callK (D 64 [(V.ptr v0b v0o), (V.int .i64 (Int.ofNat 0))] σ) fun u3 s4 =>
 rtInt .u8 u3 fun x5 =>
 K2 v0b v0o x2 x5 s4
def C67_1 : XC := (.seq (.draw (.m 46 0 <|
 .p 47 [46] (.nilck (.t 46)) <|
 .p 48 [47] (.faddr 0 (.t 47)) <|
 .p 49 [48] (.faddr 0 (.t 48)) <|
 .op (some 50) .str [49] (.load none (.t 49)) <|
 .m 51 4 <|
 .m 52 0 <|
 .p 53 [52] (.nilck (.t 52)) <|
 .p 54 [53] (.faddr 0 (.t 53)) <|
 .p 55 [54] (.faddr 1 (.t 54)) <|
 .op (some 56) .i [55] (.load none (.t 55)) <|
 .p 57 [50, 51, 56] (.sliceStr (.t 50) (some (.t 51)) (some (.t 56))) <|
 .m 6 57 <|
 .nil) [0, 1, 3, 7, 15, 0, 0, 64, 192, 448, 960, 2047, 4095])
 (.seq (.block 2 (.seq (.ops (.m 59 6 <|
 .p 60 [59] (.len true (.t 59)) <|
 .p 61 [60] (.bin .gtr .none (.t 60) (.i 60)) <|
 .m 62 61 <|
 .grp 62 false (.p 63 [6, 62] (.mov (.t 6)) <|
 .p 64 [6, 62] (.mov (.t 6)) <|
 .p 65 [64, 62] (.len true (.t 64)) <|
 .p 66 [65, 62] (.bin .sub .none (.t 65) (.i 1)) <|
 .p 67 [63, 66, 62] (.idxStr (.t 63) (.t 66)) <|
 .p 68 [67, 62] (.bin .eql .none (.t 67) (.con (V.int .u8 (Int.ofNat 45)))) <|
 .nil) 69 [62, 68] (.t 62) (.con (V.bool true)) (.t 68) <|
 .m 58 69 <|
 .nil))
 (.cond (.tmp 58) (.seq (.ops (.p 2 [] (.mov (.i 0)) <|
 .p 3 [] (.mov (.con (V.str ⟨0, 0⟩))) <|
 .nil))
 .ret)
 (.seq (.ops (.m 71 6 <|
 .op (some 72) .bool [71] (.call 100 [(.t 71)]) <|
 .m 70 72 <|
 .nil))
 (.cond (.tmp 70) (.seq (.ops (.m 73 6 <|
 .p 2 [] (.mov (.i 5)) <|
 .m 3 73 <|
 .nil))
 .ret)
 (.seq (.ops (.m 75 6 <|
 .p 76 [75] (.idxStr (.t 75) (.i 0)) <|
 .p 77 [76] (.bin .leq .none (.t 76) (.con (V.int .u8 (Int.ofNat 90)))) <|
 .m 74 77 <|
 .nil))
 (.cond (.tmp 74) (.seq (.ops (.m 78 6 <|
 .p 2 [] (.mov (.i 1)) <|
 .m 3 78 <|
 .nil))
 .ret)
 .skip)))))))
 (.seq (.ops (.m 79 6 <|
 .p 2 [] (.mov (.i 2)) <|
 .m 3 79 <|
 .nil))
 .ret)))
def T67_1 (E : List (Nat × Blk)) (D : Den) (W : DrawFn) (v0b : Nat) (v0o : Nat) (v4 : Int) (σ : H) : Ans :=
 ldK E σ v0b v0o fun u1 =>
 rtStr u1 fun x2 =>
 ldK E σ v0b (Nat.add v0o 1) fun u3 =>
 rtInt .i64 u3 fun x4 =>
 sliceStrX x2 (some (V.int .i64 v4)) (some (V.int .i64 x4)) fun t5 =>
 joinB (fun c6 s7 =>
 condK c6 (
 some ((V.tup [(V.int .i64 (Int.ofNat 0)), (V.str (BS.mk 0 0))]), s7)) (
 callK (D 100 [(V.str t5)] s7) fun u9 s10 =>
 rtBool u9 fun x11 =>
 condK x11 (
 some ((V.tup [(V.int .i64 (Int.ofNat 5)), (V.str t5)]), s10)) (
 idxStrX t5 (Int.ofNat 0) fun x12 =>
 condK (leF x12 (Int.ofNat 90)) (
 some ((V.tup [(V.int .i64 (Int.ofNat 1)), (V.str t5)]), s10)) (
 some ((V.tup [(V.int .i64 (Int.ofNat 2)), (V.str t5)]), s10))))) fun k8 =>
 condK (ltF (Int.ofNat 60) (Int.ofNat (BS.len t5))) (
 k8 true σ) (
 idxStrX t5 (subF .i64 (Int.ofNat (BS.len t5)) (Int.ofNat 1)) fun x13 =>
 k8 (eqF x13 (Int.ofNat 45)) σ)
def C67_2 : XC := (.seq (.seq (.ops (.m 16 5 <|
 .op (some 17) .bool [16] (.call 66 [(.t 16)]) <|
 .m 18 17 <|
 .grp 18 false (.p 19 [5, 18] (.mov (.t 5)) <|
 .op (some 20) .bool [19, 18] (.call 68 [(.t 19)]) <|
 .nil) 21 [18, 20] (.t 18) (.con (V.bool true)) (.t 20) <|
 .m 22 21 <|
 .grp 22 false (.p 23 [5, 22] (.mov (.t 5)) <|
 .p 24 [23, 22] (.bin .eql .none (.t 23) (.con (V.int .u8 (Int.ofNat 45)))) <|
 .p 25 [24, 22] (.mov (.t 24)) <|
 .grp 25 true (.p 26 [0, 25] (.mov (.t 0)) <|
 .p 27 [26, 25] (.nilck (.t 26)) <|
 .p 28 [27, 25] (.faddr 0 (.t 27)) <|
 .op (some 29) (.int .u8) [28, 25] (.call 64 [(.t 28), (.i 1)]) <|
 .p 30 [29, 25] (.bin .neq .none (.t 29) (.con (V.int .u8 (Int.ofNat 45)))) <|
 .nil) 31 [25, 30, 22] (.t 25) (.t 30) (.con (V.bool false)) <|
 .nil) 32 [22, 31] (.t 22) (.con (V.bool true)) (.t 31) <|
 .nil))
 (.cond (.tmp 32) .skip
 (.exit 0)))
 (.seq (.block 1 (.ops (.m 37 0 <|
 .p 38 [37] (.nilck (.t 37)) <|
 .p 39 [38] (.faddr 0 (.t 38)) <|
 .p 40 [39] (.faddr 1 (.t 39)) <|
 .op (some 41) .i [40] (.load none (.t 40)) <|
 .p 42 [41] (.bin .add .none (.t 41) (.i 1)) <|
 .p 43 [37] (.nilck (.t 37)) <|
 .p 44 [43] (.faddr 0 (.t 43)) <|
 .p 45 [44] (.faddr 1 (.t 44)) <|
 .op none .any [45, 42] (.store 1 (.t 45) (.t 42)) <|
 .nil)))
 (.ops (.m 33 0 <|
 .p 34 [33] (.nilck (.t 33)) <|
 .p 35 [34] (.faddr 0 (.t 34)) <|
 .op (some 36) (.int .u8) [35] (.call 64 [(.t 35), (.i 0)]) <|
 .m 5 36 <|
 .nil))))
def T67_2 (E : List (Nat × Blk)) (D : Den) (W : DrawFn) (K1 : Nat → Nat → Int → H → Ans) (R2 : Nat → Nat → Int → Int → H → Ans) (v0b : Nat) (v0o : Nat) (v4 : Int) (v5 : Int) (σ : H) : Ans :=
 callK (D 66 [(V.int .u8 v5)] σ) fun u1 s2 =>
 rtBool u1 fun x3 =>
 joinB (fun c4 s5 =>
 joinB (fun c7 s8 =>
 condK c7 (
 ldK E s8 v0b (Nat.add v0o 1) fun u10 =>
 rtInt .i64 u10 fun x11 =>
 stK 1 v0b (Nat.add v0o 1) (V.int .i64 (addF .i64 x11 (Int.ofNat 1))) s8 fun s12 =>
 callK (D 64 [(V.ptr v0b v0o), (V.int .i64 (Int.ofNat 0))] s12) fun u13 s14 =>
 rtInt .u8 u13 fun x15 =>
 R2 v0b v0o v4 x15 s14) (
 K1 v0b v0o v4 s8)) fun k9 =>
 condK c4 (
 k9 true s5) (
 joinB (fun c16 s17 =>
 k9 c16 s17) fun k18 =>
 condK (eqF v5 (Int.ofNat 45)) (
 callK (D 64 [(V.ptr v0b v0o), (V.int .i64 (Int.ofNat 1))] s5) fun u19 s20 =>
 rtInt .u8 u19 fun x21 =>
 k18 (not (eqF x21 (Int.ofNat 45))) s20) (
 k18 false s5))) fun k6 =>
 condK x3 (
 k6 true s2) (
 callK (D 68 [(V.int .u8 v5)] s2) fun u22 s23 =>
 rtBool u22 fun x24 =>
 k6 x24 s23)
theorem P67_0 (cc1 : XC) (cc2 : XC) (v0b : Nat) (v0o : Nat) (σ : H) :
  denC E D W N (C67_0 cc1 cc2) ⟨[(0, (V.ptr v0b v0o))], [], [], σ⟩ (Fin67 E) (fun _ _ => none) (Fin67 E) =
  T67_0 E D W (fun v0b v0o v4 v5 σ => iterK (fun rec s' => denC E D W N cc2 s' (fun s'' => keepS [(0, .ptr), (4, .i), (5, (.int .u8))] [] [] s'' rec) (blkK 0 (fun s' => denC E D W N (.keep [(0, .ptr), (4, .i)] [] [] cc1) s' (Fin67 E) (fun _ _ => none) (Fin67 E)) (fun _ _ => none)) (Fin67 E)) N ⟨[(0, (V.ptr v0b v0o)), (4, (V.int .i64 v4)), (5, (V.int .u8 v5))], [], [], σ⟩) v0b v0o σ := by kernel_rfl
theorem P67_1 (v0b : Nat) (v0o : Nat) (v4 : Int) (σ : H) :
  denC E D W N (C67_1 ) ⟨[(0, (V.ptr v0b v0o)), (4, (V.int .i64 v4))], [], [], σ⟩ (Fin67 E) (fun _ _ => none) (Fin67 E) =
  T67_1 E D W  v0b v0o v4 σ := by kernel_rfl
theorem P67_2 (cc1 : XC) (li2 : St → Ans) (v0b : Nat) (v0o : Nat) (v4 : Int) (v5 : Int) (σ : H) :
  denC E D W N (C67_2 ) ⟨[(0, (V.ptr v0b v0o)), (4, (V.int .i64 v4)), (5, (V.int .u8 v5))], [], [], σ⟩ (fun s'' => keepS [(0, .ptr), (4, .i), (5, (.int .u8))] [] [] s'' li2) (blkK 0 (fun s' => denC E D W N (.keep [(0, .ptr), (4, .i)] [] [] cc1) s' (Fin67 E) (fun _ _ => none) (Fin67 E)) (fun _ _ => none)) (Fin67 E) =
  T67_2 E D W (fun v0b v0o v4 σ => denC E D W N cc1 ⟨[(0, (V.ptr v0b v0o)), (4, (V.int .i64 v4))], [], [], σ⟩ (Fin67 E) (fun _ _ => none) (Fin67 E)) (fun v0b v0o v4 v5 σ => li2 ⟨[(0, (V.ptr v0b v0o)), (4, (V.int .i64 v4)), (5, (V.int .u8 v5))], [], [], σ⟩) v0b v0o v4 v5 σ := by kernel_rfl
def J67_1 (E : List (Nat × Blk)) (D : Den) (W : DrawFn) (N : Nat) : Nat → Nat → Int → H → Ans := T67_1 E D W 
theorem JE67_1 (v0b : Nat) (v0o : Nat) (v4 : Int) (σ : H) :
  denC E D W N C67_1 ⟨[(0, (V.ptr v0b v0o)), (4, (V.int .i64 v4))], [], [], σ⟩ (Fin67 E) (fun _ _ => none) (Fin67 E) = J67_1 E D W N v0b v0o v4 σ := by
  refine (P67_1 E D W N   v0b v0o v4 σ).trans ?_
  kernel_rfl
def L67_2 (n : Nat) : Nat → Nat → Int → Int → H → Ans :=
  Nat.rec (fun _ _ _ _ _ => none) (fun _ ih => T67_2 E D W (J67_1 E D W N ) ih) n
theorem LE67_2 (n : Nat) : ∀ (v0b : Nat) (v0o : Nat) (v4 : Int) (v5 : Int) (σ : H),
  iterK (fun rec s' => denC E D W N C67_2 s' (fun s'' => keepS [(0, .ptr), (4, .i), (5, (.int .u8))] [] [] s'' rec) (blkK 0 (fun s' => denC E D W N (.keep [(0, .ptr), (4, .i)] [] [] C67_1) s' (Fin67 E) (fun _ _ => none) (Fin67 E)) (fun _ _ => none)) (Fin67 E)) n ⟨[(0, (V.ptr v0b v0o)), (4, (V.int .i64 v4)), (5, (V.int .u8 v5))], [], [], σ⟩ = L67_2 E D W N n v0b v0o v4 v5 σ := by
  induction n with
  | zero => intro v0b v0o v4 v5 σ; rfl
  | succ n ihn =>
    intro v0b v0o v4 v5 σ
    rw [iterK_succ]
    refine (P67_2 E D W N C67_1 (iterK (fun rec s' => denC E D W N C67_2 s' (fun s'' => keepS [(0, .ptr), (4, .i), (5, (.int .u8))] [] [] s'' rec) (blkK 0 (fun s' => denC E D W N (.keep [(0, .ptr), (4, .i)] [] [] C67_1) s' (Fin67 E) (fun _ _ => none) (Fin67 E)) (fun _ _ => none)) (Fin67 E)) n) v0b v0o v4 v5 σ).trans ?_
    simp only [ihn, JE67_1]
    kernel_rfl
def J67_0 : Nat → Nat → H → Ans := T67_0 E D W (L67_2 E D W N N)
theorem JE67_0 (v0b : Nat) (v0o : Nat) (σ : H) :
  denC E D W N (C67_0 C67_1 C67_2) ⟨[(0, (V.ptr v0b v0o))], [], [], σ⟩ (Fin67 E) (fun _ _ => none) (Fin67 E) = J67_0 E D W N v0b v0o σ := by
  refine (P67_0 E D W N C67_1 C67_2  v0b v0o σ).trans ?_
  simp only [LE67_2]
  kernel_rfl
def F67 (args : List V) (σ : H) : Ans :=
 rtCons args fun x1 l2 =>
 rtPtr x1 fun b3 o4 =>
 rtNil l2 (
 J67_0 E D W N b3 o4 σ)
def A67 : XFn := ⟨80, [.ptr], [(.tmp 2), (.tmp 3)], (C67_0 C67_1 C67_2)⟩
theorem FE67 (args : List V) (σ : H) : runX E D W N A67 args σ = F67 E D W N args σ := by
  unfold F67
  simp only [← JE67_0]
  kernel_rfl
theorem AO67 : A67.body.ok = true := by kernel_rfl

/-! ### F68: ogham_lex.digit -/
def Fin68 (E : List (Nat × Blk)) : St → Ans := fun s => resK E s [(.tmp 2)] fun l => some (oneV l, s.σ)
def C68_0 : XC := (.seq (.ops (.p 2 [] (.mov (.con (V.bool false))) <|
 .nil))
 (.seq (.ops (.m 3 0 <|
 .p 4 [3] (.bin .geq .none (.t 3) (.con (V.int .u8 (Int.ofNat 48)))) <|
 .m 5 4 <|
 .grp 5 true (.p 6 [0, 5] (.mov (.t 0)) <|
 .p 7 [6, 5] (.bin .leq .none (.t 6) (.con (V.int .u8 (Int.ofNat 57)))) <|
 .nil) 8 [5, 7] (.t 5) (.t 7) (.con (V.bool false)) <|
 .m 2 8 <|
 .nil))
 .ret))
def T68_0 (E : List (Nat × Blk)) (D : Den) (W : DrawFn) (v0 : Int) (σ : H) : Ans :=
 joinB (fun c1 s2 =>
 some ((V.bool c1), s2)) fun k3 =>
 condK (leF (Int.ofNat 48) v0) (
 k3 (leF v0 (Int.ofNat 57)) σ) (
 k3 false σ)
theorem P68_0 (v0 : Int) (σ : H) :
  denC E D W N (C68_0 ) ⟨[(0, (V.int .u8 v0))], [], [], σ⟩ (Fin68 E) (fun _ _ => none) (Fin68 E) =
  T68_0 E D W  v0 σ := by kernel_rfl
def J68_0 (E : List (Nat × Blk)) (D : Den) (W : DrawFn) (N : Nat) : Int → H → Ans := T68_0 E D W 
theorem JE68_0 (v0 : Int) (σ : H) :
  denC E D W N C68_0 ⟨[(0, (V.int .u8 v0))], [], [], σ⟩ (Fin68 E) (fun _ _ => none) (Fin68 E) = J68_0 E D W N v0 σ := by
  refine (P68_0 E D W N   v0 σ).trans ?_
  kernel_rfl
def F68 (args : List V) (σ : H) : Ans :=
 rtCons args fun x1 l2 =>
 rtInt .u8 x1 fun x3 =>
 rtNil l2 (
 J68_0 E D W N x3 σ)
def A68 : XFn := ⟨9, [(.int .u8)], [(.tmp 2)], C68_0⟩
theorem FE68 (args : List V) (σ : H) : runX E D W N A68 args σ = F68 E D W N args σ := by
  unfold F68
  simp only [← JE68_0]
  kernel_rfl
theorem AO68 : A68.body.ok = true := by kernel_rfl

/-! ### F69: __ogham_lex.lexer_.number -/
def Fin69 (E : List (Nat × Blk)) : St → Ans := fun s => resK E s [(.tmp 2), (.tmp 3)] fun l => some (oneV l, s.σ)
def C69_0 (cc1 : XC) : XC := (.seq (.ops (.p 2 [] (.mov (.i 0)) <|
 .p 3 [] (.mov (.con (V.str ⟨0, 0⟩))) <|
 .nil))
 (.seq (.ops (.m 10 0 <|
 .p 11 [10] (.nilck (.t 10)) <|
 .p 12 [11] (.faddr 0 (.t 11)) <|
 .p 13 [12] (.faddr 1 (.t 12)) <|
 .op (some 14) .i [13] (.load none (.t 13)) <|
 .m 4 14 <|
 .nil))
 (.seq (.seq (.ops (.m 15 0 <|
 .p 16 [15] (.nilck (.t 15)) <|
 .p 17 [16] (.faddr 0 (.t 16)) <|
 .op (some 18) (.int .u8) [17] (.call 64 [(.t 17), (.i 0)]) <|
 .p 19 [18] (.bin .eql .none (.t 18) (.con (V.int .u8 (Int.ofNat 45)))) <|
 .nil))
 (.cond (.tmp 19) (.ops (.m 20 0 <|
 .p 21 [20] (.nilck (.t 20)) <|
 .p 22 [21] (.faddr 0 (.t 21)) <|
 .p 23 [22] (.faddr 1 (.t 22)) <|
 .op (some 24) .i [23] (.load none (.t 23)) <|
 .p 25 [24] (.bin .add .none (.t 24) (.i 1)) <|
 .p 26 [20] (.nilck (.t 20)) <|
 .p 27 [26] (.faddr 0 (.t 26)) <|
 .p 28 [27] (.faddr 1 (.t 27)) <|
 .op none .any [28, 25] (.store 1 (.t 28) (.t 25)) <|
 .nil))
 .skip))
 (.keep [(0, .ptr), (4, .i)] [] [] cc1))))
def T69_0 (E : List (Nat × Blk)) (D : Den) (W : DrawFn) (K1 : Nat → Nat → Int → H → Ans) (v0b : Nat) (v0o : Nat) (σ : H) : Ans :=
 ldK E σ v0b (Nat.add v0o 1) fun u1 =>
 rtInt .i64 u1 fun x2 =>
 callK (D 64 [(V.ptr v0b v0o), (V.int .i64 (Int.ofNat 0))] σ) fun u3 s4 =>
 rtInt .u8 u3 fun x5 =>
 condK (eqF x5 (Int.ofNat 45)) (
 ldK E s4 v0b (Nat.add v0o 1) fun u6 =>
 rtInt .i64 u6 fun x7 =>
 stK 1 v0b (Nat.add v0o 1) (V.int .i64 (addF .i64 x7 (Int.ofNat 1))) s4 fun s8 =>
 K1 v0b v0o x2 s8) (
 K1 v0b v0o x2 s4)
def C69_1 (cc2 : XC) (cc3 : XC) : XC := (.seq (.ops (.m 29 0 <|
 .p 30 [29] (.nilck (.t 29)) <|
 .p 31 [30] (.faddr 0 (.t 30)) <|
 .p 32 [31] (.faddr 1 (.t 31)) <|
 .op (some 33) .i [32] (.load none (.t 32)) <|
 .m 5 33 <|
 .nil))
 (.seq (.block 0 (.loop [(0, .ptr), (4, .i), (5, .i)] [] [] cc3))
 (.keep [(0, .ptr), (4, .i), (5, .i)] [] [] cc2)))
def T69_1 (E : List (Nat × Blk)) (D : Den) (W : DrawFn) (K3 : Nat → Nat → Int → Int → H → Ans) (v0b : Nat) (v0o : Nat) (v4 : Int) (σ : H) : Ans :=
 ldK E σ v0b (Nat.add v0o 1) fun u1 =>
 rtInt .i64 u1 fun x2 =>
 K3 v0b v0o v4 x2 σ
def C69_2 : XC := (.seq (.draw (.m 48 0 <|
 .p 49 [48] (.nilck (.t 48)) <|
 .p 50 [49] (.faddr 0 (.t 49)) <|
 .p 51 [50] (.faddr 0 (.t 50)) <|
 .op (some 52) .str [51] (.load none (.t 51)) <|
 .m 53 4 <|
 .m 54 0 <|
 .p 55 [54] (.nilck (.t 54)) <|
 .p 56 [55] (.faddr 0 (.t 55)) <|
 .p 57 [56] (.faddr 1 (.t 56)) <|
 .op (some 58) .i [57] (.load none (.t 57)) <|
 .p 59 [52, 53, 58] (.sliceStr (.t 52) (some (.t 53)) (some (.t 58))) <|
 .m 60 0 <|
 .p 61 [60] (.nilck (.t 60)) <|
 .p 62 [61] (.faddr 0 (.t 61)) <|
 .p 63 [62] (.faddr 0 (.t 62)) <|
 .op (some 64) .str [63] (.load none (.t 63)) <|
 .m 65 5 <|
 .p 66 [64, 65] (.idxStr (.t 64) (.t 65)) <|
 .p 67 [66] (.bin .eql .none (.t 66) (.con (V.int .u8 (Int.ofNat 48)))) <|
 .m 6 59 <|
 .m 7 67 <|
 .nil) [0, 1, 3, 7, 15, 0, 0, 64, 192, 448, 960, 2047, 0, 4096, 12288, 28672, 61440, 0, 258048, 520192, 4095, 2097151])
 (.seq (.seq (.ops (.m 69 6 <|
 .op (some 70) (.tup [.i, .any]) [69] (.call 101 [(.t 69), (.i 10), (.i 64)]) <|
 .m 68 70 <|
 .p 71 [68] (.extract 0 (.t 68)) <|
 .p 72 [68] (.extract 1 (.t 68)) <|
 .m 8 71 <|
 .m 9 72 <|
 .nil))
 (.seq (.ops (.m 73 9 <|
 .p 74 [73] (.bin .neq (.iface true) (.t 73) (.con V.nili)) <|
 .m 75 74 <|
 .grp 75 false (.p 76 [7, 75] (.mov (.t 7)) <|
 .p 77 [76, 75] (.mov (.t 76)) <|
 .grp 77 true (.p 78 [0, 77] (.mov (.t 0)) <|
 .p 79 [78, 77] (.nilck (.t 78)) <|
 .p 80 [79, 77] (.faddr 0 (.t 79)) <|
 .p 81 [80, 77] (.faddr 1 (.t 80)) <|
 .op (some 82) .i [81, 77] (.load none (.t 81)) <|
 .p 83 [5, 77] (.mov (.t 5)) <|
 .p 84 [82, 83, 77] (.bin .sub .none (.t 82) (.t 83)) <|
 .p 85 [84, 77] (.bin .gtr .none (.t 84) (.i 1)) <|
 .p 86 [85, 77] (.mov (.t 85)) <|
 .grp 86 false (.p 87 [5, 86] (.mov (.t 5)) <|
 .p 88 [4, 86] (.mov (.t 4)) <|
 .p 89 [87, 88, 86] (.bin .gtr .none (.t 87) (.t 88)) <|
 .nil) 90 [86, 89, 77] (.t 86) (.con (V.bool true)) (.t 89) <|
 .nil) 91 [77, 90, 75] (.t 77) (.t 90) (.con (V.bool false)) <|
 .nil) 92 [75, 91] (.t 75) (.con (V.bool true)) (.t 91) <|
 .m 93 92 <|
 .grp 93 false (.p 94 [0, 93] (.mov (.t 0)) <|
 .p 95 [94, 93] (.nilck (.t 94)) <|
 .p 96 [95, 93] (.faddr 0 (.t 95)) <|
 .op (some 97) (.int .u8) [96, 93] (.call 64 [(.t 96), (.i 0)]) <|
 .op (some 98) .bool [97, 93] (.call 66 [(.t 97)]) <|
 .nil) 99 [93, 98] (.t 93) (.con (V.bool true)) (.t 98) <|
 .nil))
 (.cond (.tmp 99) (.seq (.ops (.p 2 [] (.mov (.i 0)) <|
 .p 3 [] (.mov (.con (V.str ⟨0, 0⟩))) <|
 .nil))
 .ret)
 .skip)))
 (.seq (.ops (.m 100 6 <|
 .p 2 [] (.mov (.i 3)) <|
 .m 3 100 <|
 .nil))
 .ret)))
def T69_2 (E : List (Nat × Blk)) (D : Den) (W : DrawFn) (v0b : Nat) (v0o : Nat) (v4 : Int) (v5 : Int) (σ : H) : Ans :=
 ldK E σ v0b v0o fun u1 =>
 rtStr u1 fun x2 =>
 ldK E σ v0b (Nat.add v0o 1) fun u3 =>
 rtInt .i64 u3 fun x4 =>
 sliceStrX x2 (some (V.int .i64 v4)) (some (V.int .i64 x4)) fun t5 =>
 ldK E σ v0b v0o fun u6 =>
 rtStr u6 fun x7 =>
 idxStrX x7 v5 fun x8 =>
 callK (D 101 [(V.str t5), (V.int .i64 (Int.ofNat 10)), (V.int .i64 (Int.ofNat 64))] σ) fun u9 s10 =>
 rtTup u9 fun l11 =>
 rtCons l11 fun x12 l13 =>
 rtInt .i64 x12 fun x14 =>
 rtCons l13 fun x15 l16 =>
 rtNil l16 (
 eqK (.iface true) x15 V.nili fun c17 =>
 joinB (fun c18 s19 =>
 joinB (fun c21 s22 =>
 condK c21 (
 some ((V.tup [(V.int .i64 (Int.ofNat 0)), (V.str (BS.mk 0 0))]), s22)) (
 some ((V.tup [(V.int .i64 (Int.ofNat 3)), (V.str t5)]), s22))) fun k23 =>
 condK c18 (
 k23 true s19) (
 callK (D 64 [(V.ptr v0b v0o), (V.int .i64 (Int.ofNat 0))] s19) fun u24 s25 =>
 rtInt .u8 u24 fun x26 =>
 callK (D 66 [(V.int .u8 x26)] s25) fun u27 s28 =>
 rtBool u27 fun x29 =>
 k23 x29 s28)) fun k20 =>
 condK (not c17) (
 k20 true s10) (
 joinB (fun c30 s31 =>
 k20 c30 s31) fun k32 =>
 condK (eqF x8 (Int.ofNat 48)) (
 ldK E s10 v0b (Nat.add v0o 1) fun u33 =>
 rtInt .i64 u33 fun x34 =>
 joinB (fun c35 s36 =>
 k32 c35 s36) fun k37 =>
 condK (ltF (Int.ofNat 1) (subF .i64 x34 v5)) (
 k37 true s10) (
 k37 (ltF v4 v5) s10)) (
 k32 false s10)))
def C69_3 : XC := (.seq (.seq (.ops (.m 34 0 <|
 .p 35 [34] (.nilck (.t 34)) <|
 .p 36 [35] (.faddr 0 (.t 35)) <|
 .op (some 37) (.int .u8) [36] (.call 64 [(.t 36), (.i 0)]) <|
 .op (some 38) .bool [37] (.call 68 [(.t 37)]) <|
 .nil))
 (.cond (.tmp 38) .skip
 (.exit 0)))
 (.block 1 (.ops (.m 39 0 <|
 .p 40 [39] (.nilck (.t 39)) <|
 .p 41 [40] (.faddr 0 (.t 40)) <|
 .p 42 [41] (.faddr 1 (.t 41)) <|
 .op (some 43) .i [42] (.load none (.t 42)) <|
 .p 44 [43] (.bin .add .none (.t 43) (.i 1)) <|
 .p 45 [39] (.nilck (.t 39)) <|
 .p 46 [45] (.faddr 0 (.t 45)) <|
 .p 47 [46] (.faddr 1 (.t 46)) <|
 .op none .any [47, 44] (.store 1 (.t 47) (.t 44)) <|
 .nil))))
def T69_3 (E : List (Nat × Blk)) (D : Den) (W : DrawFn) (K2 : Nat → Nat → Int → Int → H → Ans) (R3 : Nat → Nat → Int → Int → H → Ans) (v0b : Nat) (v0o : Nat) (v4 : Int) (v5 : Int) (σ : H) : Ans :=
 callK (D 64 [(V.ptr v0b v0o), (V.int .i64 (Int.ofNat 0))] σ) fun u1 s2 =>
 rtInt .u8 u1 fun x3 =>
 callK (D 68 [(V.int .u8 x3)] s2) fun u4 s5 =>
 rtBool u4 fun x6 =>
 condK x6 (
 ldK E s5 v0b (Nat.add v0o 1) fun u7 =>
 rtInt .i64 u7 fun x8 =>
 stK 1 v0b (Nat.add v0o 1) (V.int .i64 (addF .i64 x8 (Int.ofNat 1))) s5 fun s9 =>
 R3 v0b v0o v4 v5 s9) (
 K2 v0b v0o v4 v5 s5)
theorem P69_0 (cc1 : XC) (v0b : Nat) (v0o : Nat) (σ : H) :
  denC E D W N (C69_0 cc1) ⟨[(0, (V.ptr v0b v0o))], [], [], σ⟩ (Fin69 E) (fun _ _ => none) (Fin69 E) =
  T69_0 E D W (fun v0b v0o v4 σ => denC E D W N cc1 ⟨[(0, (V.ptr v0b v0o)), (4, (V.int .i64 v4))], [], [], σ⟩ (Fin69 E) (fun _ _ => none) (Fin69 E)) v0b v0o σ := by kernel_rfl
theorem P69_1 (cc2 : XC) (cc3 : XC) (v0b : Nat) (v0o : Nat) (v4 : Int) (σ : H) :
  denC E D W N (C69_1 cc2 cc3) ⟨[(0, (V.ptr v0b v0o)), (4, (V.int .i64 v4))], [], [], σ⟩ (Fin69 E) (fun _ _ => none) (Fin69 E) =
  T69_1 E D W (fun v0b v0o v4 v5 σ => iterK (fun rec s' => denC E D W N cc3 s' (fun s'' => keepS [(0, .ptr), (4, .i), (5, .i)] [] [] s'' rec) (blkK 0 (fun s' => denC E D W N (.keep [(0, .ptr), (4, .i), (5, .i)] [] [] cc2) s' (Fin69 E) (fun _ _ => none) (Fin69 E)) (fun _ _ => none)) (Fin69 E)) N ⟨[(0, (V.ptr v0b v0o)), (4, (V.int .i64 v4)), (5, (V.int .i64 v5))], [], [], σ⟩) v0b v0o v4 σ := by kernel_rfl
theorem P69_2 (v0b : Nat) (v0o : Nat) (v4 : Int) (v5 : Int) (σ : H) :
  denC E D W N (C69_2 ) ⟨[(0, (V.ptr v0b v0o)), (4, (V.int .i64 v4)), (5, (V.int .i64 v5))], [], [], σ⟩ (Fin69 E) (fun _ _ => none) (Fin69 E) =
  T69_2 E D W  v0b v0o v4 v5 σ := by kernel_rfl
theorem P69_3 (cc2 : XC) (li3 : St → Ans) (v0b : Nat) (v0o : Nat) (v4 : Int) (v5 : Int) (σ : H) :
  denC E D W N (C69_3 ) ⟨[(0, (V.ptr v0b v0o)), (4, (V.int .i64 v4)), (5, (V.int .i64 v5))], [], [], σ⟩ (fun s'' => keepS [(0, .ptr), (4, .i), (5, .i)] [] [] s'' li3) (blkK 0 (fun s' => denC E D W N (.keep [(0, .ptr), (4, .i), (5, .i)] [] [] cc2) s' (Fin69 E) (fun _ _ => none) (Fin69 E)) (fun _ _ => none)) (Fin69 E) =
  T69_3 E D W (fun v0b v0o v4 v5 σ => denC E D W N cc2 ⟨[(0, (V.ptr v0b v0o)), (4, (V.int .i64 v4)), (5, (V.int .i64 v5))], [], [], σ⟩ (Fin69 E) (fun _ _ => none) (Fin69 E)) (fun v0b v0o v4 v5 σ => li3 ⟨[(0, (V.ptr v0b v0o)), (4, (V.int .i64 v4)), (5, (V.int .i64 v5))], [], [], σ⟩) v0b v0o v4 v5 σ := by kernel_rfl
def J69_2 (E : List (Nat × Blk)) (D : Den) (W : DrawFn) (N : Nat) : Nat → Nat → Int → Int → H → Ans := T69_2 E D W 
theorem JE69_2 (v0b : Nat) (v0o : Nat) (v4 : Int) (v5 : Int) (σ : H) :
  denC E D W N C69_2 ⟨[(0, (V.ptr v0b v0o)), (4, (V.int .i64 v4)), (5, (V.int .i64 v5))], [], [], σ⟩ (Fin69 E) (fun _ _ => none) (Fin69 E) = J69_2 E D W N v0b v0o v4 v5 σ := by
  refine (P69_2 E D W N   v0b v0o v4 v5 σ).trans ?_
  kernel_rfl
def L69_3 (n : Nat) : Nat → Nat → Int → Int → H → Ans :=
  Nat.rec (fun _ _ _ _ _ => none) (fun _ ih => T69_3 E D W (J69_2 E D W N ) ih) n
theorem LE69_3 (n : Nat) : ∀ (v0b : Nat) (v0o : Nat) (v4 : Int) (v5 : Int) (σ : H),
  iterK (fun rec s' => denC E D W N C69_3 s' (fun s'' => keepS [(0, .ptr), (4, .i), (5, .i)] [] [] s'' rec) (blkK 0 (fun s' => denC E D W N (.keep [(0, .ptr), (4, .i), (5, .i)] [] [] C69_2) s' (Fin69 E) (fun _ _ => none) (Fin69 E)) (fun _ _ => none)) (Fin69 E)) n ⟨[(0, (V.ptr v0b v0o)), (4, (V.int .i64 v4)), (5, (V.int .i64 v5))], [], [], σ⟩ = L69_3 E D W N n v0b v0o v4 v5 σ := by
  induction n with
  | zero => intro v0b v0o v4 v5 σ; rfl
  | succ n ihn =>
    intro v0b v0o v4 v5 σ
    rw [iterK_succ]
    refine (P69_3 E D W N C69_2 (iterK (fun rec s' => denC E D W N C69_3 s' (fun s'' => keepS [(0, .ptr), (4, .i), (5, .i)] [] [] s'' rec) (blkK 0 (fun s' => denC E D W N (.keep [(0, .ptr), (4, .i), (5, .i)] [] [] C69_2) s' (Fin69 E) (fun _ _ => none) (Fin69 E)) (fun _ _ => none)) (Fin69 E)) n) v0b v0o v4 v5 σ).trans ?_
    simp only [ihn, JE69_2]
    kernel_rfl
def J69_1 : Nat → Nat → Int → H → Ans := T69_1 E D W (L69_3 E D W N N)
theorem JE69_1 (v0b : Nat) (v0o : Nat) (v4 : Int) (σ : H) :
  denC E D W N (C69_1 C69_2 C69_3) ⟨[(0, (V.ptr v0b v0o)), (4, (V.int .i64 v4))], [], [], σ⟩ (Fin69 E) (fun _ _ => none) (Fin69 E) = J69_1 E D W N v0b v0o v4 σ := by
  refine (P69_1 E D W N C69_2 C69_3  v0b v0o v4 σ).trans ?_
  simp only [LE69_3]
  kernel_rfl
def J69_0 : Nat → Nat → H → Ans := T69_0 E D W (J69_1 E D W N )
theorem JE69_0 (v0b : Nat) (v0o : Nat) (σ : H) :
  denC E D W N (C69_0 (C69_1 C69_2 C69_3)) ⟨[(0, (V.ptr v0b v0o))], [], [], σ⟩ (Fin69 E) (fun _ _ => none) (Fin69 E) = J69_0 E D W N v0b v0o σ := by
  refine (P69_0 E D W N (C69_1 C69_2 C69_3)  v0b v0o σ).trans ?_
  simp only [JE69_1]
  kernel_rfl
def F69 (args : List V) (σ : H) : Ans :=
 rtCons args fun x1 l2 =>
 rtPtr x1 fun b3 o4 =>
 rtNil l2 (
 J69_0 E D W N b3 o4 σ)
def A69 : XFn := ⟨101, [.ptr], [(.tmp 2), (.tmp 3)], (C69_0 (C69_1 C69_2 C69_3))⟩
theorem FE69 (args : List V) (σ : H) : runX E D W N A69 args σ = F69 E D W N args σ := by
  unfold F69
  simp only [← JE69_0]
  kernel_rfl
theorem AO69 : A69.body.ok = true := by kernel_rfl

end
end Go.Proofs.YtdfgcokapncaiaaGreatDoor
