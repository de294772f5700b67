/- The code agrees with the program. Printed by a program off the dump. -/
import Derived.Test.YtpafblhkafcfmaaGreatDoorS0
import Derived.Test.YtpafblhkafcfmaaGreatDoorS1
import Derived.Test.YtpafblhkafcfmaaGreatDoorS2
import Derived.Test.YtpafblhkafcfmaaGreatDoorProg
import Derived.Test.YtpafblhkafcfmaaGreatDoorOgZ
set_option linter.all false
set_option maxRecDepth 100000
set_option maxHeartbeats 0
namespace Go.Proofs.YtpafblhkafcfmaaGreatDoor
open Go Go.Og
noncomputable section
def glob : Nat → Bool := fun g => Nat.blt g 2
theorem follows : Tryz.prog.follows .mixedOrders = true := by kernel_rfl
def Is (f : Nat) (A : XFn) : Prop := ∃ fn, Tryz.prog.funcs[f]? = some fn ∧ compF Tryz.prog glob fn = some A.strip ∧ A.body.ok = true ∧ callOk Tryz.prog f = true
theorem Is.sound {f : Nat} {A : XFn} (h : Is f A) (E : List (Nat × Blk)) (D : Den) (hD : ∀ f, SoundFn Tryz.prog E glob f (D f)) (N : Nat) : SoundFn Tryz.prog E glob f (runX E D (drawW E D) N A) :=
  let ⟨_, h1, h2, h3, h4⟩ := h
  runX_ok hD (drawW_ok hD follows) follows N h1 h2 rfl h3 h4
def tab : List (Nat × XFn) := [(3, A3), (4, A4), (5, A5), (6, A6), (7, A7), (8, A8), (9, A9), (10, A10), (11, A11), (12, A12), (13, A13), (14, A14), (15, A15), (16, A16), (17, A17), (18, A18), (19, A19), (20, A20), (21, A21), (22, A22), (23, A23), (24, A24), (25, A25), (26, A26), (28, A28), (29, A29), (30, A30), (31, A31), (32, A32), (34, A34), (35, A35), (36, A36), (37, A37), (38, A38), (39, A39), (40, A40), (41, A41), (42, A42), (43, A43), (44, A44), (45, A45), (46, A46), (48, A48), (51, A51), (55, A55), (56, A56), (57, A57), (58, A58), (59, A59), (60, A60), (61, A61), (62, A62), (63, A63), (64, A64), (65, A65), (66, A66), (67, A67), (68, A68), (69, A69), (70, A70), (71, A71), (72, A72), (73, A73), (75, A75), (76, A76), (77, A77), (78, A78), (79, A79), (80, A80), (81, A81), (82, A82), (83, A83), (84, A84), (85, A85), (86, A86), (89, A89), (92, A92), (93, A93), (95, A95), (101, A101), (103, A103), (104, A104), (105, A105), (106, A106), (107, A107), (108, A108), (109, A109), (111, A111), (115, A115), (116, A116), (117, A117), (118, A118), (119, A119), (121, A121), (124, A124), (131, A131), (132, A132), (133, A133), (134, A134), (135, A135), (136, A136), (137, A137), (138, A138), (139, A139), (142, A142), (143, A143), (145, A145), (147, A147), (149, A149), (150, A150), (152, A152), (153, A153), (154, A154), (155, A155), (156, A156), (157, A157), (158, A158), (159, A159), (160, A160), (166, A166), (170, A170), (171, A171), (176, A176), (177, A177), (178, A178), (180, A180), (187, A187), (188, A188), (189, A189), (190, A190), (191, A191), (192, A192), (193, A193), (194, A194), (198, A198), (199, A199), (200, A200), (201, A201), (202, A202), (204, A204), (205, A205), (206, A206), (207, A207), (208, A208), (209, A209), (210, A210), (212, A212), (214, A214), (215, A215), (216, A216), (220, A220), (232, A232), (233, A233), (234, A234), (235, A235), (237, A237), (240, A240), (242, A242), (243, A243), (244, A244), (250, A250), (252, A252), (253, A253), (254, A254), (261, A261)]
theorem tab_is : ∀ p ∈ tab, Is p.1 p.2 := by
  unfold tab
  simp only [List.forall_mem_cons]
  exact ⟨⟨_, Tryz.func3, by kernel_rfl, by kernel_rfl, by kernel_rfl⟩,
    ⟨_, Tryz.func4, by kernel_rfl, by kernel_rfl, by kernel_rfl⟩,
    ⟨_, Tryz.func5, by kernel_rfl, by kernel_rfl, by kernel_rfl⟩,
    ⟨_, Tryz.func6, by kernel_rfl, by kernel_rfl, by kernel_rfl⟩,
    ⟨_, Tryz.func7, by kernel_rfl, by kernel_rfl, by kernel_rfl⟩,
    ⟨_, Tryz.func8, by kernel_rfl, by kernel_rfl, by kernel_rfl⟩,
    ⟨_, Tryz.func9, by kernel_rfl, by kernel_rfl, by kernel_rfl⟩,
    ⟨_, Tryz.func10, by kernel_rfl, by kernel_rfl, by kernel_rfl⟩,
    ⟨_, Tryz.func11, by kernel_rfl, by kernel_rfl, by kernel_rfl⟩,
    ⟨_, Tryz.func12, by kernel_rfl, by kernel_rfl, by kernel_rfl⟩,
    ⟨_, Tryz.func13, by kernel_rfl, by kernel_rfl, by kernel_rfl⟩,
    ⟨_, Tryz.func14, by kernel_rfl, by kernel_rfl, by kernel_rfl⟩,
    ⟨_, Tryz.func15, by kernel_rfl, by kernel_rfl, by kernel_rfl⟩,
    ⟨_, Tryz.func16, by kernel_rfl, by kernel_rfl, by kernel_rfl⟩,
    ⟨_, Tryz.func17, by kernel_rfl, by kernel_rfl, by kernel_rfl⟩,
    ⟨_, Tryz.func18, by kernel_rfl, by kernel_rfl, by kernel_rfl⟩,
    ⟨_, Tryz.func19, by kernel_rfl, by kernel_rfl, by kernel_rfl⟩,
    ⟨_, Tryz.func20, by kernel_rfl, by kernel_rfl, by kernel_rfl⟩,
    ⟨_, Tryz.func21, by kernel_rfl, by kernel_rfl, by kernel_rfl⟩,
    ⟨_, Tryz.func22, by kernel_rfl, by kernel_rfl, by kernel_rfl⟩,
    ⟨_, Tryz.func23, by kernel_rfl, by kernel_rfl, by kernel_rfl⟩,
    ⟨_, Tryz.func24, by kernel_rfl, by kernel_rfl, by kernel_rfl⟩,
    ⟨_, Tryz.func25, by kernel_rfl, by kernel_rfl, by kernel_rfl⟩,
    ⟨_, Tryz.func26, by kernel_rfl, by kernel_rfl, by kernel_rfl⟩,
    ⟨_, Tryz.func28, by kernel_rfl, by kernel_rfl, by kernel_rfl⟩,
    ⟨_, Tryz.func29, by kernel_rfl, by kernel_rfl, by kernel_rfl⟩,
    ⟨_, Tryz.func30, by kernel_rfl, by kernel_rfl, by kernel_rfl⟩,
    ⟨_, Tryz.func31, by kernel_rfl, by kernel_rfl, by kernel_rfl⟩,
    ⟨_, Tryz.func32, by kernel_rfl, by kernel_rfl, by kernel_rfl⟩,
    ⟨_, Tryz.func34, by kernel_rfl, by kernel_rfl, by kernel_rfl⟩,
    ⟨_, Tryz.func35, by kernel_rfl, by kernel_rfl, by kernel_rfl⟩,
    ⟨_, Tryz.func36, by kernel_rfl, by kernel_rfl, by kernel_rfl⟩,
    ⟨_, Tryz.func37, by kernel_rfl, by kernel_rfl, by kernel_rfl⟩,
    ⟨_, Tryz.func38, by kernel_rfl, by kernel_rfl, by kernel_rfl⟩,
    ⟨_, Tryz.func39, by kernel_rfl, by kernel_rfl, by kernel_rfl⟩,
    ⟨_, Tryz.func40, by kernel_rfl, by kernel_rfl, by kernel_rfl⟩,
    ⟨_, Tryz.func41, by kernel_rfl, by kernel_rfl, by kernel_rfl⟩,
    ⟨_, Tryz.func42, by kernel_rfl, by kernel_rfl, by kernel_rfl⟩,
    ⟨_, Tryz.func43, by kernel_rfl, by kernel_rfl, by kernel_rfl⟩,
    ⟨_, Tryz.func44, by kernel_rfl, by kernel_rfl, by kernel_rfl⟩,
    ⟨_, Tryz.func45, by kernel_rfl, by kernel_rfl, by kernel_rfl⟩,
    ⟨_, Tryz.func46, by kernel_rfl, by kernel_rfl, by kernel_rfl⟩,
    ⟨_, Tryz.func48, by kernel_rfl, by kernel_rfl, by kernel_rfl⟩,
    ⟨_, Tryz.func51, by kernel_rfl, by kernel_rfl, by kernel_rfl⟩,
    ⟨_, Tryz.func55, by kernel_rfl, by kernel_rfl, by kernel_rfl⟩,
    ⟨_, Tryz.func56, by kernel_rfl, by kernel_rfl, by kernel_rfl⟩,
    ⟨_, Tryz.func57, by kernel_rfl, by kernel_rfl, by kernel_rfl⟩,
    ⟨_, Tryz.func58, by kernel_rfl, by kernel_rfl, by kernel_rfl⟩,
    ⟨_, Tryz.func59, by kernel_rfl, by kernel_rfl, by kernel_rfl⟩,
    ⟨_, Tryz.func60, by kernel_rfl, by kernel_rfl, by kernel_rfl⟩,
    ⟨_, Tryz.func61, by kernel_rfl, by kernel_rfl, by kernel_rfl⟩,
    ⟨_, Tryz.func62, by kernel_rfl, by kernel_rfl, by kernel_rfl⟩,
    ⟨_, Tryz.func63, by kernel_rfl, by kernel_rfl, by kernel_rfl⟩,
    ⟨_, Tryz.func64, by kernel_rfl, by kernel_rfl, by kernel_rfl⟩,
    ⟨_, Tryz.func65, by kernel_rfl, by kernel_rfl, by kernel_rfl⟩,
    ⟨_, Tryz.func66, by kernel_rfl, by kernel_rfl, by kernel_rfl⟩,
    ⟨_, Tryz.func67, by kernel_rfl, by kernel_rfl, by kernel_rfl⟩,
    ⟨_, Tryz.func68, by kernel_rfl, by kernel_rfl, by kernel_rfl⟩,
    ⟨_, Tryz.func69, by kernel_rfl, by kernel_rfl, by kernel_rfl⟩,
    ⟨_, Tryz.func70, by kernel_rfl, by kernel_rfl, by kernel_rfl⟩,
    ⟨_, Tryz.func71, by kernel_rfl, by kernel_rfl, by kernel_rfl⟩,
    ⟨_, Tryz.func72, by kernel_rfl, by kernel_rfl, by kernel_rfl⟩,
    ⟨_, Tryz.func73, by kernel_rfl, by kernel_rfl, by kernel_rfl⟩,
    ⟨_, Tryz.func75, by kernel_rfl, by kernel_rfl, by kernel_rfl⟩,
    ⟨_, Tryz.func76, by kernel_rfl, by kernel_rfl, by kernel_rfl⟩,
    ⟨_, Tryz.func77, by kernel_rfl, by kernel_rfl, by kernel_rfl⟩,
    ⟨_, Tryz.func78, by kernel_rfl, by kernel_rfl, by kernel_rfl⟩,
    ⟨_, Tryz.func79, by kernel_rfl, by kernel_rfl, by kernel_rfl⟩,
    ⟨_, Tryz.func80, by kernel_rfl, by kernel_rfl, by kernel_rfl⟩,
    ⟨_, Tryz.func81, by kernel_rfl, by kernel_rfl, by kernel_rfl⟩,
    ⟨_, Tryz.func82, by kernel_rfl, by kernel_rfl, by kernel_rfl⟩,
    ⟨_, Tryz.func83, by kernel_rfl, by kernel_rfl, by kernel_rfl⟩,
    ⟨_, Tryz.func84, by kernel_rfl, by kernel_rfl, by kernel_rfl⟩,
    ⟨_, Tryz.func85, by kernel_rfl, by kernel_rfl, by kernel_rfl⟩,
    ⟨_, Tryz.func86, by kernel_rfl, by kernel_rfl, by kernel_rfl⟩,
    ⟨_, Tryz.func89, by kernel_rfl, by kernel_rfl, by kernel_rfl⟩,
    ⟨_, Tryz.func92, by kernel_rfl, by kernel_rfl, by kernel_rfl⟩,
    ⟨_, Tryz.func93, by kernel_rfl, by kernel_rfl, by kernel_rfl⟩,
    ⟨_, Tryz.func95, by kernel_rfl, by kernel_rfl, by kernel_rfl⟩,
    ⟨_, Tryz.func101, by kernel_rfl, by kernel_rfl, by kernel_rfl⟩,
    ⟨_, Tryz.func103, by kernel_rfl, by kernel_rfl, by kernel_rfl⟩,
    ⟨_, Tryz.func104, by kernel_rfl, by kernel_rfl, by kernel_rfl⟩,
    ⟨_, Tryz.func105, by kernel_rfl, by kernel_rfl, by kernel_rfl⟩,
    ⟨_, Tryz.func106, by kernel_rfl, by kernel_rfl, by kernel_rfl⟩,
    ⟨_, Tryz.func107, by kernel_rfl, by kernel_rfl, by kernel_rfl⟩,
    ⟨_, Tryz.func108, by kernel_rfl, by kernel_rfl, by kernel_rfl⟩,
    ⟨_, Tryz.func109, by kernel_rfl, by kernel_rfl, by kernel_rfl⟩,
    ⟨_, Tryz.func111, by kernel_rfl, by kernel_rfl, by kernel_rfl⟩,
    ⟨_, Tryz.func115, by kernel_rfl, by kernel_rfl, by kernel_rfl⟩,
    ⟨_, Tryz.func116, by kernel_rfl, by kernel_rfl, by kernel_rfl⟩,
    ⟨_, Tryz.func117, by kernel_rfl, by kernel_rfl, by kernel_rfl⟩,
    ⟨_, Tryz.func118, by kernel_rfl, by kernel_rfl, by kernel_rfl⟩,
    ⟨_, Tryz.func119, by kernel_rfl, by kernel_rfl, by kernel_rfl⟩,
    ⟨_, Tryz.func121, by kernel_rfl, by kernel_rfl, by kernel_rfl⟩,
    ⟨_, Tryz.func124, by kernel_rfl, by kernel_rfl, by kernel_rfl⟩,
    ⟨_, Tryz.func131, by kernel_rfl, by kernel_rfl, by kernel_rfl⟩,
    ⟨_, Tryz.func132, by kernel_rfl, by kernel_rfl, by kernel_rfl⟩,
    ⟨_, Tryz.func133, by kernel_rfl, by kernel_rfl, by kernel_rfl⟩,
    ⟨_, Tryz.func134, by kernel_rfl, by kernel_rfl, by kernel_rfl⟩,
    ⟨_, Tryz.func135, by kernel_rfl, by kernel_rfl, by kernel_rfl⟩,
    ⟨_, Tryz.func136, by kernel_rfl, by kernel_rfl, by kernel_rfl⟩,
    ⟨_, Tryz.func137, by kernel_rfl, by kernel_rfl, by kernel_rfl⟩,
    ⟨_, Tryz.func138, by kernel_rfl, by kernel_rfl, by kernel_rfl⟩,
    ⟨_, Tryz.func139, by kernel_rfl, by kernel_rfl, by kernel_rfl⟩,
    ⟨_, Tryz.func142, by kernel_rfl, by kernel_rfl, by kernel_rfl⟩,
    ⟨_, Tryz.func143, by kernel_rfl, by kernel_rfl, by kernel_rfl⟩,
    ⟨_, Tryz.func145, by kernel_rfl, by kernel_rfl, by kernel_rfl⟩,
    ⟨_, Tryz.func147, by kernel_rfl, by kernel_rfl, by kernel_rfl⟩,
    ⟨_, Tryz.func149, by kernel_rfl, by kernel_rfl, by kernel_rfl⟩,
    ⟨_, Tryz.func150, by kernel_rfl, by kernel_rfl, by kernel_rfl⟩,
    ⟨_, Tryz.func152, by kernel_rfl, by kernel_rfl, by kernel_rfl⟩,
    ⟨_, Tryz.func153, by kernel_rfl, by kernel_rfl, by kernel_rfl⟩,
    ⟨_, Tryz.func154, by kernel_rfl, by kernel_rfl, by kernel_rfl⟩,
    ⟨_, Tryz.func155, by kernel_rfl, by kernel_rfl, by kernel_rfl⟩,
    ⟨_, Tryz.func156, by kernel_rfl, by kernel_rfl, by kernel_rfl⟩,
    ⟨_, Tryz.func157, by kernel_rfl, by kernel_rfl, by kernel_rfl⟩,
    ⟨_, Tryz.func158, by kernel_rfl, by kernel_rfl, by kernel_rfl⟩,
    ⟨_, Tryz.func159, by kernel_rfl, by kernel_rfl, by kernel_rfl⟩,
    ⟨_, Tryz.func160, by kernel_rfl, by kernel_rfl, by kernel_rfl⟩,
    ⟨_, Tryz.func166, by kernel_rfl, by kernel_rfl, by kernel_rfl⟩,
    ⟨_, Tryz.func170, by kernel_rfl, by kernel_rfl, by kernel_rfl⟩,
    ⟨_, Tryz.func171, by kernel_rfl, by kernel_rfl, by kernel_rfl⟩,
    ⟨_, Tryz.func176, by kernel_rfl, by kernel_rfl, by kernel_rfl⟩,
    ⟨_, Tryz.func177, by kernel_rfl, by kernel_rfl, by kernel_rfl⟩,
    ⟨_, Tryz.func178, by kernel_rfl, by kernel_rfl, by kernel_rfl⟩,
    ⟨_, Tryz.func180, by kernel_rfl, by kernel_rfl, by kernel_rfl⟩,
    ⟨_, Tryz.func187, by kernel_rfl, by kernel_rfl, by kernel_rfl⟩,
    ⟨_, Tryz.func188, by kernel_rfl, by kernel_rfl, by kernel_rfl⟩,
    ⟨_, Tryz.func189, by kernel_rfl, by kernel_rfl, by kernel_rfl⟩,
    ⟨_, Tryz.func190, by kernel_rfl, by kernel_rfl, by kernel_rfl⟩,
    ⟨_, Tryz.func191, by kernel_rfl, by kernel_rfl, by kernel_rfl⟩,
    ⟨_, Tryz.func192, by kernel_rfl, by kernel_rfl, by kernel_rfl⟩,
    ⟨_, Tryz.func193, by kernel_rfl, by kernel_rfl, by kernel_rfl⟩,
    ⟨_, Tryz.func194, by kernel_rfl, by kernel_rfl, by kernel_rfl⟩,
    ⟨_, Tryz.func198, by kernel_rfl, by kernel_rfl, by kernel_rfl⟩,
    ⟨_, Tryz.func199, by kernel_rfl, by kernel_rfl, by kernel_rfl⟩,
    ⟨_, Tryz.func200, by kernel_rfl, by kernel_rfl, by kernel_rfl⟩,
    ⟨_, Tryz.func201, by kernel_rfl, by kernel_rfl, by kernel_rfl⟩,
    ⟨_, Tryz.func202, by kernel_rfl, by kernel_rfl, by kernel_rfl⟩,
    ⟨_, Tryz.func204, by kernel_rfl, by kernel_rfl, by kernel_rfl⟩,
    ⟨_, Tryz.func205, by kernel_rfl, by kernel_rfl, by kernel_rfl⟩,
    ⟨_, Tryz.func206, by kernel_rfl, by kernel_rfl, by kernel_rfl⟩,
    ⟨_, Tryz.func207, by kernel_rfl, by kernel_rfl, by kernel_rfl⟩,
    ⟨_, Tryz.func208, by kernel_rfl, by kernel_rfl, by kernel_rfl⟩,
    ⟨_, Tryz.func209, by kernel_rfl, by kernel_rfl, by kernel_rfl⟩,
    ⟨_, Tryz.func210, by kernel_rfl, by kernel_rfl, by kernel_rfl⟩,
    ⟨_, Tryz.func212, by kernel_rfl, by kernel_rfl, by kernel_rfl⟩,
    ⟨_, Tryz.func214, by kernel_rfl, by kernel_rfl, by kernel_rfl⟩,
    ⟨_, Tryz.func215, by kernel_rfl, by kernel_rfl, by kernel_rfl⟩,
    ⟨_, Tryz.func216, by kernel_rfl, by kernel_rfl, by kernel_rfl⟩,
    ⟨_, Tryz.func220, by kernel_rfl, by kernel_rfl, by kernel_rfl⟩,
    ⟨_, Tryz.func232, by kernel_rfl, by kernel_rfl, by kernel_rfl⟩,
    ⟨_, Tryz.func233, by kernel_rfl, by kernel_rfl, by kernel_rfl⟩,
    ⟨_, Tryz.func234, by kernel_rfl, by kernel_rfl, by kernel_rfl⟩,
    ⟨_, Tryz.func235, by kernel_rfl, by kernel_rfl, by kernel_rfl⟩,
    ⟨_, Tryz.func237, by kernel_rfl, by kernel_rfl, by kernel_rfl⟩,
    ⟨_, Tryz.func240, by kernel_rfl, by kernel_rfl, by kernel_rfl⟩,
    ⟨_, Tryz.func242, by kernel_rfl, by kernel_rfl, by kernel_rfl⟩,
    ⟨_, Tryz.func243, by kernel_rfl, by kernel_rfl, by kernel_rfl⟩,
    ⟨_, Tryz.func244, by kernel_rfl, by kernel_rfl, by kernel_rfl⟩,
    ⟨_, Tryz.func250, by kernel_rfl, by kernel_rfl, by kernel_rfl⟩,
    ⟨_, Tryz.func252, by kernel_rfl, by kernel_rfl, by kernel_rfl⟩,
    ⟨_, Tryz.func253, by kernel_rfl, by kernel_rfl, by kernel_rfl⟩,
    ⟨_, Tryz.func254, by kernel_rfl, by kernel_rfl, by kernel_rfl⟩,
    ⟨_, Tryz.func261, by kernel_rfl, by kernel_rfl, by kernel_rfl⟩, fun _ h => nomatch h⟩
def lookA : List (Nat × XFn) → Nat → Option XFn := fun l n => List.rec none (fun p _ ih => match Nat.beq p.1 n with | true => some p.2 | false => ih) l
theorem lookA_mem : ∀ (l : List (Nat × XFn)) (n : Nat) (g : XFn), lookA l n = some g → (n, g) ∈ l
  | [], n, g, h => by cases h
  | p :: l, n, g, h => by
    have h' : (match Nat.beq p.1 n with | true => some p.2 | false => lookA l n) = some g := h
    cases hb : Nat.beq p.1 n with
    | true =>
      rw [hb] at h'
      simp only [Option.some.injEq] at h'
      have := Nat.eq_of_beq_eq_true hb
      subst this; subst h'
      exact List.mem_cons_self
    | false =>
      rw [hb] at h'
      exact List.mem_cons_of_mem _ (lookA_mem l n g h')
def ftab (E : List (Nat × Blk)) (N : Nat) (D : Den) : List (Nat × (List V → H → Ans)) := []
def BD (E : List (Nat × Blk)) (N : Nat) (D : Den) : Den := fun f => match lookF (ftab E N D) f with
  | some g => g
  | none => match lookA tab f with
    | some g => runX E D (drawW E D) N g
    | none => fun _ _ => none
theorem BD_ok (E : List (Nat × Blk)) (N : Nat) (D : Den) (hD : ∀ f, SoundFn Tryz.prog E glob f (D f)) (f : FuncId) : SoundFn Tryz.prog E glob f (BD E N D f) := by
  have hall : ∀ p ∈ ftab E N D, SoundFn Tryz.prog E glob p.1 p.2 := by
    unfold ftab
    skip
    exact fun _ h => nomatch h
  unfold BD
  split
  · rename_i g hg
    rw [lookF_eq] at hg
    exact hall _ (look_mem hg)
  · split
    · rename_i g hg
      exact (tab_is _ (lookA_mem _ _ _ hg)).sound E _ hD N
    · intro C _ _ R σ w args xs v σ' h; cases h
def DT (E : List (Nat × Blk)) (N : Nat) (d : Nat) : Den := Nat.rec (fun _ _ _ => none) (fun _ ih => BD E N ih) d
theorem DT_ok (E : List (Nat × Blk)) (N : Nat) : ∀ (d : Nat) (f : FuncId), SoundFn Tryz.prog E glob f (DT E N d f) := by
  intro d
  induction d with
  | zero => intro f C _ _ R σ w args xs v σ' h; cases h
  | succ d ih => exact BD_ok E N _ ih
theorem globLt : ∀ g, glob g = true → g < 2 := fun g hg => by simpa [glob] using hg
end
end Go.Proofs.YtpafblhkafcfmaaGreatDoor
