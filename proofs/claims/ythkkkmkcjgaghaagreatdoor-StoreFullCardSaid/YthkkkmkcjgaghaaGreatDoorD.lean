/- The code agrees with the program. Printed by a program off the dump. -/
import Derived.Test.YthkkkmkcjgaghaaGreatDoorS0
import Derived.Test.YthkkkmkcjgaghaaGreatDoorS1
import Derived.Test.YthkkkmkcjgaghaaGreatDoorProg
import Derived.Test.YthkkkmkcjgaghaaGreatDoorOgZ
set_option linter.all false
set_option maxRecDepth 100000
set_option maxHeartbeats 0
namespace Go.Proofs.YthkkkmkcjgaghaaGreatDoor
open Go Go.Og
noncomputable section
def glob : Nat → Bool := fun g => Nat.blt g 8
theorem follows : Tryz.prog.follows .mixedOrders = true := by kernel_rfl
def Is (f : Nat) (A : XFn) : Prop := ∃ fn, Tryz.prog.funcs[f]? = some fn ∧ compF Tryz.prog glob fn = some A.strip ∧ A.body.ok = true ∧ callOk Tryz.prog f = true
theorem Is.sound {f : Nat} {A : XFn} (h : Is f A) (E : List (Nat × Blk)) (D : Den) (hD : ∀ f, SoundFn Tryz.prog E glob f (D f)) (N : Nat) : SoundFn Tryz.prog E glob f (runX E D (drawW E D) N A) :=
  let ⟨_, h1, h2, h3, h4⟩ := h
  runX_ok hD (drawW_ok hD follows) follows N h1 h2 rfl h3 h4
def tab : List (Nat × XFn) := [(4, A4), (7, A7), (9, A9), (11, A11), (12, A12), (13, A13), (14, A14), (15, A15), (16, A16), (17, A17), (18, A18), (19, A19), (20, A20), (21, A21), (22, A22), (25, A25), (26, A26), (27, A27), (28, A28), (29, A29), (31, A31), (32, A32), (34, A34), (39, A39), (40, A40), (41, A41), (42, A42), (43, A43), (44, A44), (45, A45), (46, A46), (47, A47), (48, A48), (55, A55), (66, A66), (67, A67), (68, A68), (69, A69), (70, A70), (71, A71), (72, A72), (73, A73), (74, A74), (75, A75), (76, A76), (77, A77), (78, A78), (87, A87), (88, A88), (89, A89), (90, A90), (91, A91), (92, A92), (93, A93), (94, A94), (95, A95), (96, A96), (97, A97), (98, A98), (100, A100), (101, A101), (102, A102), (103, A103), (105, A105), (107, A107), (108, A108), (109, A109), (115, A115), (116, A116), (117, A117), (118, A118), (119, A119), (123, A123), (125, A125), (126, A126), (127, A127), (128, A128), (129, A129), (130, A130), (131, A131), (132, A132), (133, A133), (134, A134), (136, A136), (142, A142), (143, A143), (145, A145), (146, A146), (147, A147), (150, A150), (151, A151), (154, A154), (155, A155), (156, A156), (157, A157), (159, A159), (163, A163), (164, A164), (165, A165), (166, A166), (172, A172), (175, A175), (177, A177), (181, A181), (184, A184), (188, A188), (190, A190), (191, A191), (192, A192), (210, A210), (213, A213)]
theorem tab_is : ∀ p ∈ tab, Is p.1 p.2 := by
  unfold tab
  simp only [List.forall_mem_cons]
  exact ⟨⟨_, Tryz.func4, by kernel_rfl, by kernel_rfl, by kernel_rfl⟩,
    ⟨_, Tryz.func7, by kernel_rfl, by kernel_rfl, by kernel_rfl⟩,
    ⟨_, Tryz.func9, by kernel_rfl, by kernel_rfl, by kernel_rfl⟩,
    ⟨_, Tryz.func11, by kernel_rfl, by kernel_rfl, by kernel_rfl⟩,
    ⟨_, Tryz.func12, by kernel_rfl, by kernel_rfl, by kernel_rfl⟩,
    ⟨_, Tryz.func13, by kernel_rfl, by kernel_rfl, by kernel_rfl⟩,
    ⟨_, Tryz.func14, by kernel_rfl, by kernel_rfl, by kernel_rfl⟩,
    ⟨_, Tryz.func15, by kernel_rfl, by kernel_rfl, by kernel_rfl⟩,
    ⟨_, Tryz.func16, by kernel_rfl, by kernel_rfl, by kernel_rfl⟩,
    ⟨_, Tryz.func17, by kernel_rfl, by kernel_rfl, by kernel_rfl⟩,
    ⟨_, Tryz.func18, by kernel_rfl, by kernel_rfl, by kernel_rfl⟩,
    ⟨_, Tryz.func19, by kernel_rfl, by kernel_rfl, by kernel_rfl⟩,
    ⟨_, Tryz.func20, by kernel_rfl, by kernel_rfl, by kernel_rfl⟩,
    ⟨_, Tryz.func21, by kernel_rfl, by kernel_rfl, by kernel_rfl⟩,
    ⟨_, Tryz.func22, by kernel_rfl, by kernel_rfl, by kernel_rfl⟩,
    ⟨_, Tryz.func25, by kernel_rfl, by kernel_rfl, by kernel_rfl⟩,
    ⟨_, Tryz.func26, by kernel_rfl, by kernel_rfl, by kernel_rfl⟩,
    ⟨_, Tryz.func27, by kernel_rfl, by kernel_rfl, by kernel_rfl⟩,
    ⟨_, Tryz.func28, by kernel_rfl, by kernel_rfl, by kernel_rfl⟩,
    ⟨_, Tryz.func29, by kernel_rfl, by kernel_rfl, by kernel_rfl⟩,
    ⟨_, Tryz.func31, by kernel_rfl, by kernel_rfl, by kernel_rfl⟩,
    ⟨_, Tryz.func32, by kernel_rfl, by kernel_rfl, by kernel_rfl⟩,
    ⟨_, Tryz.func34, by kernel_rfl, by kernel_rfl, by kernel_rfl⟩,
    ⟨_, Tryz.func39, by kernel_rfl, by kernel_rfl, by kernel_rfl⟩,
    ⟨_, Tryz.func40, by kernel_rfl, by kernel_rfl, by kernel_rfl⟩,
    ⟨_, Tryz.func41, by kernel_rfl, by kernel_rfl, by kernel_rfl⟩,
    ⟨_, Tryz.func42, by kernel_rfl, by kernel_rfl, by kernel_rfl⟩,
    ⟨_, Tryz.func43, by kernel_rfl, by kernel_rfl, by kernel_rfl⟩,
    ⟨_, Tryz.func44, by kernel_rfl, by kernel_rfl, by kernel_rfl⟩,
    ⟨_, Tryz.func45, by kernel_rfl, by kernel_rfl, by kernel_rfl⟩,
    ⟨_, Tryz.func46, by kernel_rfl, by kernel_rfl, by kernel_rfl⟩,
    ⟨_, Tryz.func47, by kernel_rfl, by kernel_rfl, by kernel_rfl⟩,
    ⟨_, Tryz.func48, by kernel_rfl, by kernel_rfl, by kernel_rfl⟩,
    ⟨_, Tryz.func55, by kernel_rfl, by kernel_rfl, by kernel_rfl⟩,
    ⟨_, Tryz.func66, by kernel_rfl, by kernel_rfl, by kernel_rfl⟩,
    ⟨_, Tryz.func67, by kernel_rfl, by kernel_rfl, by kernel_rfl⟩,
    ⟨_, Tryz.func68, by kernel_rfl, by kernel_rfl, by kernel_rfl⟩,
    ⟨_, Tryz.func69, by kernel_rfl, by kernel_rfl, by kernel_rfl⟩,
    ⟨_, Tryz.func70, by kernel_rfl, by kernel_rfl, by kernel_rfl⟩,
    ⟨_, Tryz.func71, by kernel_rfl, by kernel_rfl, by kernel_rfl⟩,
    ⟨_, Tryz.func72, by kernel_rfl, by kernel_rfl, by kernel_rfl⟩,
    ⟨_, Tryz.func73, by kernel_rfl, by kernel_rfl, by kernel_rfl⟩,
    ⟨_, Tryz.func74, by kernel_rfl, by kernel_rfl, by kernel_rfl⟩,
    ⟨_, Tryz.func75, by kernel_rfl, by kernel_rfl, by kernel_rfl⟩,
    ⟨_, Tryz.func76, by kernel_rfl, by kernel_rfl, by kernel_rfl⟩,
    ⟨_, Tryz.func77, by kernel_rfl, by kernel_rfl, by kernel_rfl⟩,
    ⟨_, Tryz.func78, by kernel_rfl, by kernel_rfl, by kernel_rfl⟩,
    ⟨_, Tryz.func87, by kernel_rfl, by kernel_rfl, by kernel_rfl⟩,
    ⟨_, Tryz.func88, by kernel_rfl, by kernel_rfl, by kernel_rfl⟩,
    ⟨_, Tryz.func89, by kernel_rfl, by kernel_rfl, by kernel_rfl⟩,
    ⟨_, Tryz.func90, by kernel_rfl, by kernel_rfl, by kernel_rfl⟩,
    ⟨_, Tryz.func91, by kernel_rfl, by kernel_rfl, by kernel_rfl⟩,
    ⟨_, Tryz.func92, by kernel_rfl, by kernel_rfl, by kernel_rfl⟩,
    ⟨_, Tryz.func93, by kernel_rfl, by kernel_rfl, by kernel_rfl⟩,
    ⟨_, Tryz.func94, by kernel_rfl, by kernel_rfl, by kernel_rfl⟩,
    ⟨_, Tryz.func95, by kernel_rfl, by kernel_rfl, by kernel_rfl⟩,
    ⟨_, Tryz.func96, by kernel_rfl, by kernel_rfl, by kernel_rfl⟩,
    ⟨_, Tryz.func97, by kernel_rfl, by kernel_rfl, by kernel_rfl⟩,
    ⟨_, Tryz.func98, by kernel_rfl, by kernel_rfl, by kernel_rfl⟩,
    ⟨_, Tryz.func100, by kernel_rfl, by kernel_rfl, by kernel_rfl⟩,
    ⟨_, Tryz.func101, by kernel_rfl, by kernel_rfl, by kernel_rfl⟩,
    ⟨_, Tryz.func102, by kernel_rfl, by kernel_rfl, by kernel_rfl⟩,
    ⟨_, Tryz.func103, by kernel_rfl, by kernel_rfl, by kernel_rfl⟩,
    ⟨_, Tryz.func105, by kernel_rfl, by kernel_rfl, by kernel_rfl⟩,
    ⟨_, Tryz.func107, by kernel_rfl, by kernel_rfl, by kernel_rfl⟩,
    ⟨_, Tryz.func108, by kernel_rfl, by kernel_rfl, by kernel_rfl⟩,
    ⟨_, Tryz.func109, by kernel_rfl, by kernel_rfl, by kernel_rfl⟩,
    ⟨_, Tryz.func115, by kernel_rfl, by kernel_rfl, by kernel_rfl⟩,
    ⟨_, Tryz.func116, by kernel_rfl, by kernel_rfl, by kernel_rfl⟩,
    ⟨_, Tryz.func117, by kernel_rfl, by kernel_rfl, by kernel_rfl⟩,
    ⟨_, Tryz.func118, by kernel_rfl, by kernel_rfl, by kernel_rfl⟩,
    ⟨_, Tryz.func119, by kernel_rfl, by kernel_rfl, by kernel_rfl⟩,
    ⟨_, Tryz.func123, by kernel_rfl, by kernel_rfl, by kernel_rfl⟩,
    ⟨_, Tryz.func125, by kernel_rfl, by kernel_rfl, by kernel_rfl⟩,
    ⟨_, Tryz.func126, by kernel_rfl, by kernel_rfl, by kernel_rfl⟩,
    ⟨_, Tryz.func127, by kernel_rfl, by kernel_rfl, by kernel_rfl⟩,
    ⟨_, Tryz.func128, by kernel_rfl, by kernel_rfl, by kernel_rfl⟩,
    ⟨_, Tryz.func129, by kernel_rfl, by kernel_rfl, by kernel_rfl⟩,
    ⟨_, Tryz.func130, by kernel_rfl, by kernel_rfl, by kernel_rfl⟩,
    ⟨_, Tryz.func131, by kernel_rfl, by kernel_rfl, by kernel_rfl⟩,
    ⟨_, Tryz.func132, by kernel_rfl, by kernel_rfl, by kernel_rfl⟩,
    ⟨_, Tryz.func133, by kernel_rfl, by kernel_rfl, by kernel_rfl⟩,
    ⟨_, Tryz.func134, by kernel_rfl, by kernel_rfl, by kernel_rfl⟩,
    ⟨_, Tryz.func136, by kernel_rfl, by kernel_rfl, by kernel_rfl⟩,
    ⟨_, Tryz.func142, by kernel_rfl, by kernel_rfl, by kernel_rfl⟩,
    ⟨_, Tryz.func143, by kernel_rfl, by kernel_rfl, by kernel_rfl⟩,
    ⟨_, Tryz.func145, by kernel_rfl, by kernel_rfl, by kernel_rfl⟩,
    ⟨_, Tryz.func146, by kernel_rfl, by kernel_rfl, by kernel_rfl⟩,
    ⟨_, Tryz.func147, by kernel_rfl, by kernel_rfl, by kernel_rfl⟩,
    ⟨_, Tryz.func150, by kernel_rfl, by kernel_rfl, by kernel_rfl⟩,
    ⟨_, Tryz.func151, by kernel_rfl, by kernel_rfl, by kernel_rfl⟩,
    ⟨_, Tryz.func154, by kernel_rfl, by kernel_rfl, by kernel_rfl⟩,
    ⟨_, Tryz.func155, by kernel_rfl, by kernel_rfl, by kernel_rfl⟩,
    ⟨_, Tryz.func156, by kernel_rfl, by kernel_rfl, by kernel_rfl⟩,
    ⟨_, Tryz.func157, by kernel_rfl, by kernel_rfl, by kernel_rfl⟩,
    ⟨_, Tryz.func159, by kernel_rfl, by kernel_rfl, by kernel_rfl⟩,
    ⟨_, Tryz.func163, by kernel_rfl, by kernel_rfl, by kernel_rfl⟩,
    ⟨_, Tryz.func164, by kernel_rfl, by kernel_rfl, by kernel_rfl⟩,
    ⟨_, Tryz.func165, by kernel_rfl, by kernel_rfl, by kernel_rfl⟩,
    ⟨_, Tryz.func166, by kernel_rfl, by kernel_rfl, by kernel_rfl⟩,
    ⟨_, Tryz.func172, by kernel_rfl, by kernel_rfl, by kernel_rfl⟩,
    ⟨_, Tryz.func175, by kernel_rfl, by kernel_rfl, by kernel_rfl⟩,
    ⟨_, Tryz.func177, by kernel_rfl, by kernel_rfl, by kernel_rfl⟩,
    ⟨_, Tryz.func181, by kernel_rfl, by kernel_rfl, by kernel_rfl⟩,
    ⟨_, Tryz.func184, by kernel_rfl, by kernel_rfl, by kernel_rfl⟩,
    ⟨_, Tryz.func188, by kernel_rfl, by kernel_rfl, by kernel_rfl⟩,
    ⟨_, Tryz.func190, by kernel_rfl, by kernel_rfl, by kernel_rfl⟩,
    ⟨_, Tryz.func191, by kernel_rfl, by kernel_rfl, by kernel_rfl⟩,
    ⟨_, Tryz.func192, by kernel_rfl, by kernel_rfl, by kernel_rfl⟩,
    ⟨_, Tryz.func210, by kernel_rfl, by kernel_rfl, by kernel_rfl⟩,
    ⟨_, Tryz.func213, by kernel_rfl, by kernel_rfl, by kernel_rfl⟩, fun _ h => nomatch h⟩
def lookA : List (Nat × XFn) → Nat → Option XFn := fun l n => List.rec none (fun p _ ih => match Nat.beq p.1 n with | true => some p.2 | false => ih) l
theorem lookA_mem : ∀ (l : List (Nat × XFn)) (n : Nat) (g : XFn), lookA l n = some g → (n, g) ∈ l
  | [], n, g, h => by cases h
  | p :: l, n, g, h => by
    have h' : (match Nat.beq p.1 n with | true => some p.2 | false => lookA l n) = some g := h
    cases hb : Nat.beq p.1 n with
    | true =>
      rw [hb] at h'
      simp only [Option.some.injEq] at h'
      have := Nat.eq_of_beq_eq_true hb
      subst this; subst h'
      exact List.mem_cons_self
    | false =>
      rw [hb] at h'
      exact List.mem_cons_of_mem _ (lookA_mem l n g h')
theorem CF5 : compF Tryz.prog glob Tryz.f5 = some A5.strip := by kernel_rfl
theorem CO5 : callOk Tryz.prog 5 = true := by kernel_rfl
theorem SF5 (E : List (Nat × Blk)) (D : Den) (hD : ∀ f, SoundFn Tryz.prog E glob f (D f)) (N : Nat) : SoundFn Tryz.prog E glob 5 (F5 E D (drawW E D) N) := by
  have h := runX_ok hD (drawW_ok hD follows) follows N Tryz.func5 (xf := A5) CF5 rfl AO5 CO5
  have he : runX E D (drawW E D) N A5 = F5 E D (drawW E D) N := by funext args σ; exact FE5 E D (drawW E D) N args σ
  rw [he] at h; exact h
def ftab (E : List (Nat × Blk)) (N : Nat) (D : Den) : List (Nat × (List V → H → Ans)) := [(5, F5 E D (drawW E D) N)]
def BD (E : List (Nat × Blk)) (N : Nat) (D : Den) : Den := fun f => match lookF (ftab E N D) f with
  | some g => g
  | none => match lookA tab f with
    | some g => runX E D (drawW E D) N g
    | none => fun _ _ => none
theorem BD_ok (E : List (Nat × Blk)) (N : Nat) (D : Den) (hD : ∀ f, SoundFn Tryz.prog E glob f (D f)) (f : FuncId) : SoundFn Tryz.prog E glob f (BD E N D f) := by
  have hall : ∀ p ∈ ftab E N D, SoundFn Tryz.prog E glob p.1 p.2 := by
    unfold ftab
    simp only [List.forall_mem_cons]
    exact ⟨SF5 E _ hD N, fun _ h => nomatch h⟩
  unfold BD
  split
  · rename_i g hg
    rw [lookF_eq] at hg
    exact hall _ (look_mem hg)
  · split
    · rename_i g hg
      exact (tab_is _ (lookA_mem _ _ _ hg)).sound E _ hD N
    · intro C _ _ R σ w args xs v σ' h; cases h
def DT (E : List (Nat × Blk)) (N : Nat) (d : Nat) : Den := Nat.rec (fun _ _ _ => none) (fun _ ih => BD E N ih) d
theorem DT_ok (E : List (Nat × Blk)) (N : Nat) : ∀ (d : Nat) (f : FuncId), SoundFn Tryz.prog E glob f (DT E N d f) := by
  intro d
  induction d with
  | zero => intro f C _ _ R σ w args xs v σ' h; cases h
  | succ d ih => exact BD_ok E N _ ih
theorem globLt : ∀ g, glob g = true → g < 8 := fun g hg => by simpa [glob] using hg
end
end Go.Proofs.YthkkkmkcjgaghaaGreatDoor
