/- The parser's types without a tag: NULL, integers, octets, lists. -/
import Derived.Test.YtjolbidcficdhaaDoorBs
set_option linter.all false
set_option maxRecDepth 100000
namespace Go.Proofs.YtjolbidcficdhaaDoor
open Go Go.Og
noncomputable section
def NT (D : Den) (K1 : Nat → Nat → Bool → Nat → Nat → H → Ans) (v0b : Nat) (v0o : Nat) (v1 : Int) (x19 : Bool) (b4 b8 : Nat) (s37 : H) : Ans :=
 callK (D 43 [(V.ptr v0b v0o), (V.str (BS.mk 7 22026814072246082))] s37) fun u109 s110 =>
 rtBool u109 fun x111 =>
 condK x111 (
 stK 1 b8 0 (V.int .i64 (Int.ofNat 1)) s110 fun s112 =>
 K1 b4 0 x19 b8 0 s112) (
 callK (D 43 [(V.ptr v0b v0o), (V.str (BS.mk 4 1280070990))] s110) fun u113 s114 =>
 rtBool u113 fun x115 =>
 condK x115 (
 stK 1 b8 0 (V.int .i64 (Int.ofNat 4)) s114 fun s116 =>
 K1 b4 0 x19 b8 0 s116) (
 callK (D 43 [(V.ptr v0b v0o), (V.str (BS.mk 10 488440487847103610377301))] s114) fun u117 s118 =>
 rtBool u117 fun x119 =>
 condK x119 (
 stK 1 b8 0 (V.int .i64 (Int.ofNat 6)) s118 fun s120 =>
 callK (D 63 [(V.ptr v0b v0o), (V.ptr b8 5)] s120) fun u121 s122 =>
 rtBool u121 fun x123 =>
 K1 b4 0 x123 b8 0 s122) (
 callK (D 43 [(V.ptr v0b v0o), (V.str (BS.mk 7 23157120498421321))] s118) fun u124 s125 =>
 rtBool u124 fun x126 =>
 condK x126 (
 stK 1 b8 0 (V.int .i64 (Int.ofNat 2)) s125 fun s127 =>
 callK (D 43 [(V.ptr v0b v0o), (V.str (BS.mk 1 40))] s127) fun u128 s129 =>
 rtBool u128 fun x130 =>
 joinB (fun c131 s132 =>
 K1 b4 0 c131 b8 0 s132) fun k133 =>
 condK (not x130) (
 k133 true s129) (
 callK (D 64 [(V.ptr v0b v0o), (V.ptr b8 5)] s129) fun u134 s135 =>
 rtBool u134 fun x136 =>
 joinB (fun c137 s138 =>
 k133 c137 s138) fun k139 =>
 condK x136 (
 let s140 := newB s135 (.cells [(V.str (BS.mk 1 41))]);
 callK (D 21 [(V.ptr v0b v0o), (V.sl (H.next s135) 0 1 (.ex 1))] s140) fun u141 s142 =>
 rtBool u141 fun x143 =>
 k139 x143 s142) (
 k139 false s135))) (
 callK (D 43 [(V.ptr v0b v0o), (V.str (BS.mk 5 361940403023))] s125) fun u144 s145 =>
 rtBool u144 fun x146 =>
 condK x146 (
 stK 1 b8 0 (V.int .i64 (Int.ofNat 5)) s145 fun s147 =>
 let s148 := newB s147 (.cells [(V.str (BS.mk 6 78401563153491))]);
 callK (D 21 [(V.ptr v0b v0o), (V.sl (H.next s147) 0 1 (.ex 1))] s148) fun u149 s150 =>
 rtBool u149 fun x151 =>
 joinB (fun c152 s153 =>
 K1 b4 0 c152 b8 0 s153) fun k154 =>
 condK x151 (
 callK (D 63 [(V.ptr v0b v0o), (V.ptr b8 5)] s150) fun u155 s156 =>
 rtBool u155 fun x157 =>
 k154 x157 s156) (
 k154 false s150)) (
 callK (D 43 [(V.ptr v0b v0o), (V.str (BS.mk 10 322399817400452109389381))] s145) fun u158 s159 =>
 rtBool u158 fun x160 =>
 condK x160 (
 stK 1 b8 0 (V.int .i64 (Int.ofNat 3)) s159 fun s161 =>
 callK (D 65 [(V.ptr v0b v0o), (V.ptr b8 0)] s161) fun u162 s163 =>
 rtBool u162 fun x164 =>
 K1 b4 0 x164 b8 0 s163) (
 callK (D 43 [(V.ptr v0b v0o), (V.str (BS.mk 3 5522771))] s159) fun u165 s166 =>
 rtBool u165 fun x167 =>
 condK x167 (
 stK 1 b8 0 (V.int .i64 (Int.ofNat 8)) s166 fun s168 =>
 callK (D 66 [(V.ptr v0b v0o), (V.ptr b8 0), (V.int .i64 v1)] s168) fun u169 s170 =>
 rtBool u169 fun x171 =>
 K1 b4 0 x171 b8 0 s170) (
 callK (D 43 [(V.ptr v0b v0o), (V.str (BS.mk 6 76155295057987))] s166) fun u172 s173 =>
 rtBool u172 fun x174 =>
 condK x174 (
 stK 1 b8 0 (V.int .i64 (Int.ofNat 9)) s173 fun s175 =>
 callK (D 66 [(V.ptr v0b v0o), (V.ptr b8 0), (V.int .i64 v1)] s175) fun u176 s177 =>
 rtBool u176 fun x178 =>
 K1 b4 0 x178 b8 0 s177) (
 callK (D 43 [(V.ptr v0b v0o), (V.str (BS.mk 8 4990918871747741011))] s173) fun u179 s180 =>
 rtBool u179 fun x181 =>
 condK x181 (
 callK (D 67 [(V.ptr v0b v0o), (V.ptr b8 0), (V.int .i64 v1)] s180) fun u182 s183 =>
 rtBool u182 fun x184 =>
 K1 b4 0 x184 b8 0 s183) (
 callK (D 23 [(V.ptr v0b v0o)] s180) fun u185 s186 =>
 rtAgg u185 fun l187 =>
 rtCons l187 fun x188 l189 =>
 rtInt .i64 x188 fun x190 =>
 rtCons l189 fun x191 l192 =>
 rtStr x191 fun x193 =>
 rtCons l192 fun x194 l195 =>
 rtInt .i64 x194 fun x196 =>
 rtNil l195 (
 callK (D 41 [(V.ptr v0b v0o), (V.int .i64 x196), (V.int .i64 (Int.ofNat 7))] s186) fun u197 s198 =>
 rtBool u197 fun x199 =>
 K1 b4 0 x199 b8 0 s198))))))))))
/-- No tag stands there. -/
def SpMark0 (ts : List Tk) (j : Nat) (F : List V → H → Ans) : Prop := ∀ (σ : H) (p tb : Nat) (m : List V), Px σ p tb ts j m →
  F [.ptr p 0] σ = some (.tup [.agg [.bool false, .int .i64 (Int.ofNat 0), .int .i64 (Int.ofNat 0)], .bool true], σ)
def SpNd (ts : List Tk) (j j' : Nat) (L : List V) (Q : H → H → List V → List V → Prop) (F : List V → H → Ans) : Prop := ∀ (σ : H) (p tb : Nat) (d : Int) (m : List V), Px σ p tb ts j m →
  ∃ σ6 σ7 σ8 m' b4, F [.ptr p 0, .int .i64 d] σ = some (.tup [.agg L, .bool true], σ8) ∧ Px σ8 p tb ts j' m' ∧ Fr (fun k => k = p) σ σ8 ∧ Q σ6 σ7 m m' ∧ Fr (fun k => k = b4) σ7 σ8 ∧ b4 < σ6.next ∧ σ.next ≤ b4 ∧ Fr (fun k => k = p) σ σ6
section
variable {D : Den} {W : DrawFn} {N : Nat} {ts : List Tk} {j j' : Nat} {t t1 : Tk}
theorem mark0_F (hI : SpIs (D 43)) (ht : ts[j]? = some t) (hs : stB t (BS.mk 1 91) = false) : SpMark0 ts j (F62 [] D W N) := by
  intro σ p tb m h
  have i := hI σ p tb j ts _ t (BS.mk 1 91) h ht
  rw [hs] at i
  simp only [] at i
  show T62_0 [] D W (J62_1 [] D W N) p 0 σ = _
  simp only [T62_0, i, callK_some_, rtBool_bool, Bool.not_false, condK_true]
theorem node_end {σ : H} {b4 b8 k on : Nat} {has hl hh mo : Bool} {u v : Int} {z : List V} (h8 : Atc σ b8 (nd k has hl hh mo u v on)) (h4 : Atc σ b4 zero16) :
    J53_1 [] D W N b4 0 true b8 0 σ = some (.tup [.agg (nd k has hl hh mo u v on), .bool true], setF σ b4 (.cells (nd k has hl hh mo u v on))) := by
  show T53_1 [] D W b4 0 true b8 0 σ = _
  unfold T53_1
  rw [ldnK_at h8 (by show 0 + 16 ≤ 16; omega)]
  show rtCons (nd k has hl hh mo u v on) _ = _
  simp only [nd, rtCons_cons, rtInt_int, rtStr_str, rtBool_bool, rtNil_nil]
  rw [stK_at h4 rfl]
  show ldnK [] (setF σ b4 (.cells (nd k has hl hh mo u v on))) b4 0 16 _ = _
  rw [ldnK_at (Atc_setF _) (by show 0 + 16 ≤ 16; omega)]
  rfl
theorem nd_F (hP : SpSPeek (D 23)) (hM : SpMark0 ts j (D 62)) (ht : ts[j]? = some t) (hk : t.1 = 5) {k on : Nat} {has hl hh mo : Bool} {u v : Int} {Q : H → H → List V → List V → Prop}
    (hT : ∀ (p tb : Nat) (m : List V) (d : Int) (b4 b8 : Nat) (σ : H), Cx σ p tb ts j m b8 (nd 0 false false false false (Int.ofNat 0) (Int.ofNat 0) 0) → ∃ σ' m', NT D (J53_1 [] D W N) p 0 d true b4 b8 σ = J53_1 [] D W N b4 0 true b8 0 σ' ∧ Cx σ' p tb ts j' m' b8 (nd k has hl hh mo u v on) ∧ Fr (fun k => k = p ∨ k = b8) σ σ' ∧ Q σ σ' m m') :
    SpNd ts j j' (nd k has hl hh mo u v on) Q (F53 [] D W N) := by
  intro σ p tb d m h
  obtain ⟨σ1, e1, f1, a1, n1⟩ := mk_new h.tidy zero16
  have x1 := h.fr f1 (fun h => h) (fun h => h)
  have lp := h.lt; have ltb := h.tlt
  have g2 := hM σ1 p tb m x1
  obtain ⟨σ3, e3, f3, a3, n3⟩ := mk_new x1.tidy zero16
  have x3 := x1.fr f3 (fun h => h) (fun h => h)
  have a13 := f3.at_ a1 x1.tidy (fun h => h)
  obtain ⟨σ4, e4, f4, a4⟩ := mk_set x3.tidy a3 (nd 0 false false false false (Int.ofNat 0) (Int.ofNat 0) 0)
  have x4 := x3.fr f4 (by omega) (by omega)
  have a14 := f4.at_ a13 x3.tidy (by omega)
  have le4 : σ3.next ≤ σ4.next := f4.le
  obtain ⟨σ5, e5, f5, a5, n5⟩ := mk_new x4.tidy [.int .i64 (Int.ofNat 0), .str ⟨0, 0⟩, .int .i64 (Int.ofNat 0)]
  have x5 := x4.fr f5 (fun h => h) (fun h => h)
  have a15 := f5.at_ a14 x4.tidy (fun h => h)
  have a45 := f5.at_ a4 x4.tidy (fun h => h)
  obtain ⟨σ6, e6, f6, a6⟩ := mk_set x5.tidy a5 [.int .i64 (Int.ofNat t.1), .str (ofN t.2.1), .int .i64 (Int.ofNat t.2.2)]
  have x6 := x5.fr f6 (by omega) (by omega)
  have a16 := f6.at_ a15 x5.tidy (by omega)
  have a46 := f6.at_ a45 x5.tidy (by omega)
  have le6 : σ5.next ≤ σ6.next := f6.le
  have pk := hP σ4 p tb j ts _ t x4 ht
  obtain ⟨σ7, m', e7, c7, f7, q7⟩ := hT p tb m d σ.next σ1.next σ6 ⟨x6, a46, by omega, by omega⟩
  have a17 := f7.at_ a16 x6.tidy (by omega)
  have f8 := Fr.set c7.x.tidy (a17.lt c7.x.tidy) (.cells (nd k has hl hh mo u v on))
  have q16 : Fr (fun k => k = p) σ σ6 := ((((f1.mono (T := fun k => k = p) (fun _ _ h => h.elim)).trans f3 (fun _ _ h => h.elim)).trans f4 (fun c hc h => by have h : c = σ1.next := h; omega)).trans f5 (fun _ _ h => h.elim)).trans f6 (fun c hc h => by have h : c = σ4.next := h; omega)
  have l7 := c7.x.lt; have lt7 := c7.x.tlt
  refine ⟨σ6, σ7, _, m', σ.next, ?_, c7.x.fr f8 (by omega) (by omega), (q16.trans f7 (fun c hc h => by have h : c = p ∨ c = σ1.next := h; omega)).trans f8 (fun c hc h => by have h : c = σ.next := h; omega), q7, f8, by omega, by omega, q16⟩
  rw [← node_end (D := D) (W := W) (N := N) c7.c a17 (z := []), ← e7]
  show T53_0 [] D W (J53_1 [] D W N) p 0 d σ = _
  unfold T53_0
  show callK (D 62 [.ptr p 0] (newB σ (.cells zero16))) _ = _
  rw [e1, g2]
  simp only [callK_some_, rtTup_tup, rtCons_cons, rtAgg_agg, rtBool_bool, rtInt_int, rtNil_nil, Bool.not_true, condK_false]
  show stK 16 (H.next σ1) 0 _ (newB σ1 (.cells zero16)) _ = _
  rw [e3, stK_at a3 rfl]
  show callK (D 23 [.ptr p 0] (setF σ3 σ1.next (.cells (nd 0 false false false false (Int.ofNat 0) (Int.ofNat 0) 0)))) _ = _
  rw [e4, pk]
  simp only [callK_some_, tokV, rtAgg_agg, rtCons_cons, rtInt_int, rtStr_str, rtNil_nil]
  show stK 3 (H.next σ4) 0 _ (newB σ4 (.cells [.int .i64 (Int.ofNat 0), .str ⟨0, 0⟩, .int .i64 (Int.ofNat 0)])) _ = _
  have e6' : setF σ5 σ4.next (.cells (spl [V.int .i64 (Int.ofNat 0), .str ⟨0, 0⟩, .int .i64 (Int.ofNat 0)] 0 (V.agg [.int .i64 (Int.ofNat t.1), .str (ofN t.2.1), .int .i64 (Int.ofNat t.2.2)]).cells)) = σ6 := e6
  rw [e5, stK_at a5 rfl, e6']
  show ldK [] σ6 σ4.next 0 _ = _
  rw [ldK_at a6 rfl]
  simp only [rtInt_int]
  rw [show eqF (Int.ofNat t.1) (Int.ofNat 1) = false by rw [hk]; rfl, condK_false]
  rfl
/-! ### the kinds -/
def Same : H → H → List V → List V → Prop := fun _ _ m m' => m' = m
def isB (t : Tk) : Prop := stB t (BS.mk 7 22026814072246082) = false
theorem null_F (hP : SpSPeek (D 23)) (hI : SpIs (D 43)) (hM : SpMark0 ts j (D 62)) (ht : ts[j]? = some t) (hk : t.1 = 5) (h0 : stB t (BS.mk 7 22026814072246082) = false) (h1 : stB t (BS.mk 4 1280070990) = true) :
    SpNd ts j (j + 1) (nd 4 false false false false (Int.ofNat 0) (Int.ofNat 0) 0) Same (F53 [] D W N) :=
  nd_F hP hM ht hk fun p tb m d b4 b8 σ h => by
    have e0 := h.isF hI ht h0
    obtain ⟨σ1, e1, g1, f1⟩ := h.isT hI ht h1
    obtain ⟨σ2, e2, g2, f2⟩ := g1.st 0 (.int .i64 (Int.ofNat 4)) rfl
    refine ⟨σ2, m, ?_, g2, f1.trans f2 (fun _ _ h => h), rfl⟩
    unfold NT
    simp only [e0, e1, e2, callK_some_, rtBool_bool, condK_true, condK_false]
theorem int_F (hP : SpSPeek (D 23)) (hI : SpIs (D 43)) (hW : SpWant (D 21)) (hM : SpMark0 ts j (D 62)) (ht : ts[j]? = some t) (hk : t.1 = 5) (h0 : stB t (BS.mk 7 22026814072246082) = false) (h1 : stB t (BS.mk 4 1280070990) = false) (h2 : stB t (BS.mk 10 488440487847103610377301) = false) (h3 : stB t (BS.mk 7 23157120498421321) = true)
    (ht1 : ts[j + 1]? = some t1) (hs1 : stB t1 (BS.mk 1 40) = true) {hl hh mo : Bool} {u v : Int} (hB : SpBd ts (j + 2) j' hl hh mo u v (D 64)) {t2 : Tk} (ht2 : ts[j']? = some t2) (hs2 : stB t2 (BS.mk 1 41) = true) :
    SpNd ts j (j' + 1) (nd 2 true hl hh mo u v 0) Same (F53 [] D W N) :=
  nd_F hP hM ht hk fun p tb m d b4 b8 σ h => by
    have e0 := h.isF hI ht h0
    have e1 := h.isF hI ht h1
    have e2 := h.isF hI ht h2
    obtain ⟨σ3, e3, g3, f3⟩ := h.isT hI ht h3
    obtain ⟨σ4, e4, g4, f4⟩ := g3.st 0 (.int .i64 (Int.ofNat 2)) rfl
    obtain ⟨σ5, e5, g5, f5⟩ := g4.isT hI ht1 hs1
    obtain ⟨σ6, e6, g6, f6⟩ := hB σ5 p tb m b8 2 0 g5
    obtain ⟨σ7, e7, g7, a7, n7, _, f7⟩ := g6.new [V.str (BS.mk 1 41)]
    obtain ⟨σ8, e8, g8, f8⟩ := g7.want hW (l := [BS.mk 1 41]) a7 n7 ⟨⟨t2, ht2, hs2⟩, trivial⟩ (by simp)
    refine ⟨σ8, m, ?_, g8, ((((f3.trans f4 (fun _ _ h => h)).trans f5 (fun _ _ h => h)).trans f6 (fun _ _ h => h)).trans f7 (fun _ _ h => h)).trans f8 (fun _ _ h => h), rfl⟩
    unfold NT
    simp only [e0, e1, e2, e3, e4, e5, e6, callK_some_, rtBool_bool, condK_true, condK_false, joinB_, Bool.not_true]
    rw [e7]
    have e8' : D 21 [.ptr p 0, .sl (H.next σ6) 0 1 (.ex 1)] σ7 = some (.bool true, σ8) := e8
    simp only [e8', callK_some_, rtBool_bool]
theorem oct_F (hP : SpSPeek (D 23)) (hI : SpIs (D 43)) (hW : SpWant (D 21)) (hM : SpMark0 ts j (D 62)) (ht : ts[j]? = some t) (hk : t.1 = 5) (h0 : stB t (BS.mk 7 22026814072246082) = false) (h1 : stB t (BS.mk 4 1280070990) = false) (h2 : stB t (BS.mk 10 488440487847103610377301) = false) (h3 : stB t (BS.mk 7 23157120498421321) = false) (h4 : stB t (BS.mk 5 361940403023) = true)
    (ht1 : ts[j + 1]? = some t1) (hs1 : stB t1 (BS.mk 6 78401563153491) = true) {hl hh mo : Bool} {u v : Int} (hB : SpBd ts (j + 2) j' hl hh mo u v (D 63)) :
    SpNd ts j j' (nd 5 true hl hh mo u v 0) Same (F53 [] D W N) :=
  nd_F hP hM ht hk fun p tb m d b4 b8 σ h => by
    have e0 := h.isF hI ht h0
    have e1 := h.isF hI ht h1
    have e2 := h.isF hI ht h2
    have e3 := h.isF hI ht h3
    obtain ⟨σ4, e4, g4, f4⟩ := h.isT hI ht h4
    obtain ⟨σ5, e5, g5, f5⟩ := g4.st 0 (.int .i64 (Int.ofNat 5)) rfl
    obtain ⟨σ6, e6, g6, a6, n6, _, f6⟩ := g5.new [V.str (BS.mk 6 78401563153491)]
    obtain ⟨σ7, e7, g7, f7⟩ := g6.want hW (l := [BS.mk 6 78401563153491]) a6 n6 ⟨⟨t1, ht1, hs1⟩, trivial⟩ (by simp)
    obtain ⟨σ8, e8, g8, f8⟩ := hB σ7 p tb m b8 5 0 g7
    refine ⟨σ8, m, ?_, g8, (((f4.trans f5 (fun _ _ h => h)).trans f6 (fun _ _ h => h)).trans f7 (fun _ _ h => h)).trans f8 (fun _ _ h => h), rfl⟩
    unfold NT
    simp only [e0, e1, e2, e3, e4, e5, callK_some_, rtBool_bool, condK_true, condK_false, joinB_, Bool.not_true]
    rw [e6]
    have e7' : D 21 [.ptr p 0, .sl (H.next σ5) 0 1 (.ex 1)] σ6 = some (.bool true, σ7) := e7
    simp only [e7', e8, callK_some_, rtBool_bool, condK_true]
end
end
end Go.Proofs.YtjolbidcficdhaaDoor
