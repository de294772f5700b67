/- What the last text leans on, part 5 of 6: merged out of smaller texts. No condition. -/
import Derived.Test.YtgjjnbddbbhloaaGreatDoorProg
import Derived.Deep.Slices
import Derived.Carry
import Derived.KernelRfl
import Derived.Test.YtgjjnbddbbhloaaGreatDoorQ3
set_option linter.all false
set_option maxRecDepth 100000
set_option maxHeartbeats 0
namespace Go.Proofs.YtgjjnbddbbhloaaGreatDoor
open Go Go.Og
noncomputable section
def glob : Nat → Bool := fun g => Nat.blt g 2
theorem follows : Tryz.prog.follows .mixedOrders = true := by kernel_rfl
def Is (f : Nat) (A : XFn) : Prop := ∃ fn, Tryz.prog.funcs[f]? = some fn ∧ compF Tryz.prog glob fn = some A.strip ∧ A.body.ok = true ∧ callOk Tryz.prog f = true
theorem Is.sound {f : Nat} {A : XFn} (h : Is f A) (E : List (Nat × Blk)) (D : Den) (hD : ∀ f, SoundFn Tryz.prog E glob f (D f)) (N : Nat) : SoundFn Tryz.prog E glob f (runX E D (drawW E D) N A) :=
 let ⟨_, h1, h2, h3, h4⟩ := h
 runX_ok hD (drawW_ok hD follows) follows N h1 h2 rfl h3 h4
theorem Is.sf {f : Nat} {A : XFn} (h : Is f A) {E : List (Nat × Blk)} {D : Den} (hD : ∀ f, SoundFn Tryz.prog E glob f (D f)) {N : Nat} {F : List V → H → Ans} (he : ∀ args σ, runX E D (drawW E D) N A args σ = F args σ) : SoundFn Tryz.prog E glob f F := by
 have h1 := h.sound E D hD N
 rwa [show runX E D (drawW E D) N A = F from funext fun a => funext fun s => he a s] at h1
abbrev Snd (f : Nat) (F : List (Nat × Blk) → Den → DrawFn → Nat → List V → H → Ans) : Prop := ∀ (E : List (Nat × Blk)) (D : Den), (∀ f, SoundFn Tryz.prog E glob f (D f)) → ∀ N, SoundFn Tryz.prog E glob f (F E D (drawW E D) N)
def tab : List (Nat × XFn) := [(11, A11), (13, A13), (29, A29), (34, A34), (35, A35), (37, A37), (56, A56), (57, A57), (58, A58), (59, A59), (60, A60), (62, A62), (63, A63), (64, A64), (67, A67), (68, A68), (117, A117), (118, A118), (119, A119), (120, A120), (121, A121), (122, A122), (123, A123), (124, A124), (125, A125), (127, A127), (128, A128), (129, A129), (137, A137), (140, A140), (154, A154), (155, A155), (205, A205), (206, A206), (207, A207), (208, A208), (209, A209), (210, A210), (213, A213), (214, A214), (216, A216), (218, A218), (220, A220), (221, A221), (223, A223), (224, A224), (235, A235), (236, A236), (237, A237), (239, A239), (243, A243), (274, A274), (276, A276), (279, A279), (290, A290), (294, A294), (295, A295), (301, A301), (302, A302), (310, A310), (312, A312), (313, A313)]
theorem tab_is : ∀ p ∈ tab, Is p.1 p.2 := by
 unfold tab
 simp only [List.forall_mem_cons]
 exact ⟨⟨_, Tryz.func11, by kernel_rfl, by kernel_rfl, by kernel_rfl⟩,
  ⟨_, Tryz.func13, by kernel_rfl, by kernel_rfl, by kernel_rfl⟩,
  ⟨_, Tryz.func29, by kernel_rfl, by kernel_rfl, by kernel_rfl⟩,
  ⟨_, Tryz.func34, by kernel_rfl, by kernel_rfl, by kernel_rfl⟩,
  ⟨_, Tryz.func35, by kernel_rfl, by kernel_rfl, by kernel_rfl⟩,
  ⟨_, Tryz.func37, by kernel_rfl, by kernel_rfl, by kernel_rfl⟩,
  ⟨_, Tryz.func56, by kernel_rfl, by kernel_rfl, by kernel_rfl⟩,
  ⟨_, Tryz.func57, by kernel_rfl, by kernel_rfl, by kernel_rfl⟩,
  ⟨_, Tryz.func58, by kernel_rfl, by kernel_rfl, by kernel_rfl⟩,
  ⟨_, Tryz.func59, by kernel_rfl, by kernel_rfl, by kernel_rfl⟩,
  ⟨_, Tryz.func60, by kernel_rfl, by kernel_rfl, by kernel_rfl⟩,
  ⟨_, Tryz.func62, by kernel_rfl, by kernel_rfl, by kernel_rfl⟩,
  ⟨_, Tryz.func63, by kernel_rfl, by kernel_rfl, by kernel_rfl⟩,
  ⟨_, Tryz.func64, by kernel_rfl, by kernel_rfl, by kernel_rfl⟩,
  ⟨_, Tryz.func67, by kernel_rfl, by kernel_rfl, by kernel_rfl⟩,
  ⟨_, Tryz.func68, by kernel_rfl, by kernel_rfl, by kernel_rfl⟩,
  ⟨_, Tryz.func117, by kernel_rfl, by kernel_rfl, by kernel_rfl⟩,
  ⟨_, Tryz.func118, by kernel_rfl, by kernel_rfl, by kernel_rfl⟩,
  ⟨_, Tryz.func119, by kernel_rfl, by kernel_rfl, by kernel_rfl⟩,
  ⟨_, Tryz.func120, by kernel_rfl, by kernel_rfl, by kernel_rfl⟩,
  ⟨_, Tryz.func121, by kernel_rfl, by kernel_rfl, by kernel_rfl⟩,
  ⟨_, Tryz.func122, by kernel_rfl, by kernel_rfl, by kernel_rfl⟩,
  ⟨_, Tryz.func123, by kernel_rfl, by kernel_rfl, by kernel_rfl⟩,
  ⟨_, Tryz.func124, by kernel_rfl, by kernel_rfl, by kernel_rfl⟩,
  ⟨_, Tryz.func125, by kernel_rfl, by kernel_rfl, by kernel_rfl⟩,
  ⟨_, Tryz.func127, by kernel_rfl, by kernel_rfl, by kernel_rfl⟩,
  ⟨_, Tryz.func128, by kernel_rfl, by kernel_rfl, by kernel_rfl⟩,
  ⟨_, Tryz.func129, by kernel_rfl, by kernel_rfl, by kernel_rfl⟩,
  ⟨_, Tryz.func137, by kernel_rfl, by kernel_rfl, by kernel_rfl⟩,
  ⟨_, Tryz.func140, by kernel_rfl, by kernel_rfl, by kernel_rfl⟩,
  ⟨_, Tryz.func154, by kernel_rfl, by kernel_rfl, by kernel_rfl⟩,
  ⟨_, Tryz.func155, by kernel_rfl, by kernel_rfl, by kernel_rfl⟩,
  ⟨_, Tryz.func205, by kernel_rfl, by kernel_rfl, by kernel_rfl⟩,
  ⟨_, Tryz.func206, by kernel_rfl, by kernel_rfl, by kernel_rfl⟩,
  ⟨_, Tryz.func207, by kernel_rfl, by kernel_rfl, by kernel_rfl⟩,
  ⟨_, Tryz.func208, by kernel_rfl, by kernel_rfl, by kernel_rfl⟩,
  ⟨_, Tryz.func209, by kernel_rfl, by kernel_rfl, by kernel_rfl⟩,
  ⟨_, Tryz.func210, by kernel_rfl, by kernel_rfl, by kernel_rfl⟩,
  ⟨_, Tryz.func213, by kernel_rfl, by kernel_rfl, by kernel_rfl⟩,
  ⟨_, Tryz.func214, by kernel_rfl, by kernel_rfl, by kernel_rfl⟩,
  ⟨_, Tryz.func216, by kernel_rfl, by kernel_rfl, by kernel_rfl⟩,
  ⟨_, Tryz.func218, by kernel_rfl, by kernel_rfl, by kernel_rfl⟩,
  ⟨_, Tryz.func220, by kernel_rfl, by kernel_rfl, by kernel_rfl⟩,
  ⟨_, Tryz.func221, by kernel_rfl, by kernel_rfl, by kernel_rfl⟩,
  ⟨_, Tryz.func223, by kernel_rfl, by kernel_rfl, by kernel_rfl⟩,
  ⟨_, Tryz.func224, by kernel_rfl, by kernel_rfl, by kernel_rfl⟩,
  ⟨_, Tryz.func235, by kernel_rfl, by kernel_rfl, by kernel_rfl⟩,
  ⟨_, Tryz.func236, by kernel_rfl, by kernel_rfl, by kernel_rfl⟩,
  ⟨_, Tryz.func237, by kernel_rfl, by kernel_rfl, by kernel_rfl⟩,
  ⟨_, Tryz.func239, by kernel_rfl, by kernel_rfl, by kernel_rfl⟩,
  ⟨_, Tryz.func243, by kernel_rfl, by kernel_rfl, by kernel_rfl⟩,
  ⟨_, Tryz.func274, by kernel_rfl, by kernel_rfl, by kernel_rfl⟩,
  ⟨_, Tryz.func276, by kernel_rfl, by kernel_rfl, by kernel_rfl⟩,
  ⟨_, Tryz.func279, by kernel_rfl, by kernel_rfl, by kernel_rfl⟩,
  ⟨_, Tryz.func290, by kernel_rfl, by kernel_rfl, by kernel_rfl⟩,
  ⟨_, Tryz.func294, by kernel_rfl, by kernel_rfl, by kernel_rfl⟩,
  ⟨_, Tryz.func295, by kernel_rfl, by kernel_rfl, by kernel_rfl⟩,
  ⟨_, Tryz.func301, by kernel_rfl, by kernel_rfl, by kernel_rfl⟩,
  ⟨_, Tryz.func302, by kernel_rfl, by kernel_rfl, by kernel_rfl⟩,
  ⟨_, Tryz.func310, by kernel_rfl, by kernel_rfl, by kernel_rfl⟩,
  ⟨_, Tryz.func312, by kernel_rfl, by kernel_rfl, by kernel_rfl⟩,
  ⟨_, Tryz.func313, by kernel_rfl, by kernel_rfl, by kernel_rfl⟩, fun _ h => by cases h⟩
def lookA : List (Nat × XFn) → Nat → Option XFn := fun l n => List.rec none (fun p _ ih => match Nat.beq p.1 n with | true => some p.2 | false => ih) l
theorem lookA_mem : ∀ (l : List (Nat × XFn)) (n : Nat) (g : XFn), lookA l n = some g → (n, g) ∈ l
 | [], n, g, h => by cases h
 | p :: l, n, g, h => by
  have h' : (match Nat.beq p.1 n with | true => some p.2 | false => lookA l n) = some g := h
  cases hb : Nat.beq p.1 n with
  | true =>
   rw [hb] at h'
   simp only [Option.some.injEq] at h'
   have := Nat.eq_of_beq_eq_true hb
   subst this; subst h'
   exact List.mem_cons_self
  | false =>
   rw [hb] at h'
   exact List.mem_cons_of_mem _ (lookA_mem l n g h')
theorem SF4 : Snd 4 F4 := fun E D hD N => Is.sf ⟨_, Tryz.func4, by kernel_rfl, by kernel_rfl, by kernel_rfl⟩ hD (FE4 E D (drawW E D) N)
theorem SF15 : Snd 15 F15 := fun E D hD N => Is.sf ⟨_, Tryz.func15, by kernel_rfl, by kernel_rfl, by kernel_rfl⟩ hD (FE15 E D (drawW E D) N)
theorem SF17 : Snd 17 F17 := fun E D hD N => Is.sf ⟨_, Tryz.func17, by kernel_rfl, by kernel_rfl, by kernel_rfl⟩ hD (FE17 E D (drawW E D) N)
theorem SF18 : Snd 18 F18 := fun E D hD N => Is.sf ⟨_, Tryz.func18, by kernel_rfl, by kernel_rfl, by kernel_rfl⟩ hD (FE18 E D (drawW E D) N)
theorem SF19 : Snd 19 F19 := fun E D hD N => Is.sf ⟨_, Tryz.func19, by kernel_rfl, by kernel_rfl, by kernel_rfl⟩ hD (FE19 E D (drawW E D) N)
theorem SF20 : Snd 20 F20 := fun E D hD N => Is.sf ⟨_, Tryz.func20, by kernel_rfl, by kernel_rfl, by kernel_rfl⟩ hD (FE20 E D (drawW E D) N)
theorem SF21 : Snd 21 F21 := fun E D hD N => Is.sf ⟨_, Tryz.func21, by kernel_rfl, by kernel_rfl, by kernel_rfl⟩ hD (FE21 E D (drawW E D) N)
theorem SF22 : Snd 22 F22 := fun E D hD N => Is.sf ⟨_, Tryz.func22, by kernel_rfl, by kernel_rfl, by kernel_rfl⟩ hD (FE22 E D (drawW E D) N)
theorem SF23 : Snd 23 F23 := fun E D hD N => Is.sf ⟨_, Tryz.func23, by kernel_rfl, by kernel_rfl, by kernel_rfl⟩ hD (FE23 E D (drawW E D) N)
theorem SF36 : Snd 36 F36 := fun E D hD N => Is.sf ⟨_, Tryz.func36, by kernel_rfl, by kernel_rfl, by kernel_rfl⟩ hD (FE36 E D (drawW E D) N)
theorem SF38 : Snd 38 F38 := fun E D hD N => Is.sf ⟨_, Tryz.func38, by kernel_rfl, by kernel_rfl, by kernel_rfl⟩ hD (FE38 E D (drawW E D) N)
theorem SF39 : Snd 39 F39 := fun E D hD N => Is.sf ⟨_, Tryz.func39, by kernel_rfl, by kernel_rfl, by kernel_rfl⟩ hD (FE39 E D (drawW E D) N)
theorem SF40 : Snd 40 F40 := fun E D hD N => Is.sf ⟨_, Tryz.func40, by kernel_rfl, by kernel_rfl, by kernel_rfl⟩ hD (FE40 E D (drawW E D) N)
theorem SF41 : Snd 41 F41 := fun E D hD N => Is.sf ⟨_, Tryz.func41, by kernel_rfl, by kernel_rfl, by kernel_rfl⟩ hD (FE41 E D (drawW E D) N)
theorem SF42 : Snd 42 F42 := fun E D hD N => Is.sf ⟨_, Tryz.func42, by kernel_rfl, by kernel_rfl, by kernel_rfl⟩ hD (FE42 E D (drawW E D) N)
theorem SF43 : Snd 43 F43 := fun E D hD N => Is.sf ⟨_, Tryz.func43, by kernel_rfl, by kernel_rfl, by kernel_rfl⟩ hD (FE43 E D (drawW E D) N)
theorem SF44 : Snd 44 F44 := fun E D hD N => Is.sf ⟨_, Tryz.func44, by kernel_rfl, by kernel_rfl, by kernel_rfl⟩ hD (FE44 E D (drawW E D) N)
theorem SF45 : Snd 45 F45 := fun E D hD N => Is.sf ⟨_, Tryz.func45, by kernel_rfl, by kernel_rfl, by kernel_rfl⟩ hD (FE45 E D (drawW E D) N)
theorem SF65 : Snd 65 F65 := fun E D hD N => Is.sf ⟨_, Tryz.func65, by kernel_rfl, by kernel_rfl, by kernel_rfl⟩ hD (FE65 E D (drawW E D) N)
theorem SF66 : Snd 66 F66 := fun E D hD N => Is.sf ⟨_, Tryz.func66, by kernel_rfl, by kernel_rfl, by kernel_rfl⟩ hD (FE66 E D (drawW E D) N)
theorem SF69 : Snd 69 F69 := fun E D hD N => Is.sf ⟨_, Tryz.func69, by kernel_rfl, by kernel_rfl, by kernel_rfl⟩ hD (FE69 E D (drawW E D) N)
theorem SF70 : Snd 70 F70 := fun E D hD N => Is.sf ⟨_, Tryz.func70, by kernel_rfl, by kernel_rfl, by kernel_rfl⟩ hD (FE70 E D (drawW E D) N)
theorem SF71 : Snd 71 F71 := fun E D hD N => Is.sf ⟨_, Tryz.func71, by kernel_rfl, by kernel_rfl, by kernel_rfl⟩ hD (FE71 E D (drawW E D) N)
theorem SF72 : Snd 72 F72 := fun E D hD N => Is.sf ⟨_, Tryz.func72, by kernel_rfl, by kernel_rfl, by kernel_rfl⟩ hD (FE72 E D (drawW E D) N)
theorem SF74 : Snd 74 F74 := fun E D hD N => Is.sf ⟨_, Tryz.func74, by kernel_rfl, by kernel_rfl, by kernel_rfl⟩ hD (FE74 E D (drawW E D) N)
theorem SF77 : Snd 77 F77 := fun E D hD N => Is.sf ⟨_, Tryz.func77, by kernel_rfl, by kernel_rfl, by kernel_rfl⟩ hD (FE77 E D (drawW E D) N)
theorem SF84 : Snd 84 F84 := fun E D hD N => Is.sf ⟨_, Tryz.func84, by kernel_rfl, by kernel_rfl, by kernel_rfl⟩ hD (FE84 E D (drawW E D) N)
theorem SF85 : Snd 85 F85 := fun E D hD N => Is.sf ⟨_, Tryz.func85, by kernel_rfl, by kernel_rfl, by kernel_rfl⟩ hD (FE85 E D (drawW E D) N)
theorem SF86 : Snd 86 F86 := fun E D hD N => Is.sf ⟨_, Tryz.func86, by kernel_rfl, by kernel_rfl, by kernel_rfl⟩ hD (FE86 E D (drawW E D) N)
theorem SF87 : Snd 87 F87 := fun E D hD N => Is.sf ⟨_, Tryz.func87, by kernel_rfl, by kernel_rfl, by kernel_rfl⟩ hD (FE87 E D (drawW E D) N)
theorem SF131 : Snd 131 F131 := fun E D hD N => Is.sf ⟨_, Tryz.func131, by kernel_rfl, by kernel_rfl, by kernel_rfl⟩ hD (FE131 E D (drawW E D) N)
theorem SF132 : Snd 132 F132 := fun E D hD N => Is.sf ⟨_, Tryz.func132, by kernel_rfl, by kernel_rfl, by kernel_rfl⟩ hD (FE132 E D (drawW E D) N)
theorem SF136 : Snd 136 F136 := fun E D hD N => Is.sf ⟨_, Tryz.func136, by kernel_rfl, by kernel_rfl, by kernel_rfl⟩ hD (FE136 E D (drawW E D) N)
theorem SF138 : Snd 138 F138 := fun E D hD N => Is.sf ⟨_, Tryz.func138, by kernel_rfl, by kernel_rfl, by kernel_rfl⟩ hD (FE138 E D (drawW E D) N)
theorem SF139 : Snd 139 F139 := fun E D hD N => Is.sf ⟨_, Tryz.func139, by kernel_rfl, by kernel_rfl, by kernel_rfl⟩ hD (FE139 E D (drawW E D) N)
theorem SF141 : Snd 141 F141 := fun E D hD N => Is.sf ⟨_, Tryz.func141, by kernel_rfl, by kernel_rfl, by kernel_rfl⟩ hD (FE141 E D (drawW E D) N)
theorem SF147 : Snd 147 F147 := fun E D hD N => Is.sf ⟨_, Tryz.func147, by kernel_rfl, by kernel_rfl, by kernel_rfl⟩ hD (FE147 E D (drawW E D) N)
theorem SF148 : Snd 148 F148 := fun E D hD N => Is.sf ⟨_, Tryz.func148, by kernel_rfl, by kernel_rfl, by kernel_rfl⟩ hD (FE148 E D (drawW E D) N)
theorem SF149 : Snd 149 F149 := fun E D hD N => Is.sf ⟨_, Tryz.func149, by kernel_rfl, by kernel_rfl, by kernel_rfl⟩ hD (FE149 E D (drawW E D) N)
theorem SF151 : Snd 151 F151 := fun E D hD N => Is.sf ⟨_, Tryz.func151, by kernel_rfl, by kernel_rfl, by kernel_rfl⟩ hD (FE151 E D (drawW E D) N)
theorem SF152 : Snd 152 F152 := fun E D hD N => Is.sf ⟨_, Tryz.func152, by kernel_rfl, by kernel_rfl, by kernel_rfl⟩ hD (FE152 E D (drawW E D) N)
theorem SF156 : Snd 156 F156 := fun E D hD N => Is.sf ⟨_, Tryz.func156, by kernel_rfl, by kernel_rfl, by kernel_rfl⟩ hD (FE156 E D (drawW E D) N)
theorem SF157 : Snd 157 F157 := fun E D hD N => Is.sf ⟨_, Tryz.func157, by kernel_rfl, by kernel_rfl, by kernel_rfl⟩ hD (FE157 E D (drawW E D) N)
theorem SF158 : Snd 158 F158 := fun E D hD N => Is.sf ⟨_, Tryz.func158, by kernel_rfl, by kernel_rfl, by kernel_rfl⟩ hD (FE158 E D (drawW E D) N)
theorem SF159 : Snd 159 F159 := fun E D hD N => Is.sf ⟨_, Tryz.func159, by kernel_rfl, by kernel_rfl, by kernel_rfl⟩ hD (FE159 E D (drawW E D) N)
theorem SF160 : Snd 160 F160 := fun E D hD N => Is.sf ⟨_, Tryz.func160, by kernel_rfl, by kernel_rfl, by kernel_rfl⟩ hD (FE160 E D (drawW E D) N)
theorem SF161 : Snd 161 F161 := fun E D hD N => Is.sf ⟨_, Tryz.func161, by kernel_rfl, by kernel_rfl, by kernel_rfl⟩ hD (FE161 E D (drawW E D) N)
theorem SF162 : Snd 162 F162 := fun E D hD N => Is.sf ⟨_, Tryz.func162, by kernel_rfl, by kernel_rfl, by kernel_rfl⟩ hD (FE162 E D (drawW E D) N)
theorem SF163 : Snd 163 F163 := fun E D hD N => Is.sf ⟨_, Tryz.func163, by kernel_rfl, by kernel_rfl, by kernel_rfl⟩ hD (FE163 E D (drawW E D) N)
theorem SF182 : Snd 182 F182 := fun E D hD N => Is.sf ⟨_, Tryz.func182, by kernel_rfl, by kernel_rfl, by kernel_rfl⟩ hD (FE182 E D (drawW E D) N)
theorem SF230 : Snd 230 F230 := fun E D hD N => Is.sf ⟨_, Tryz.func230, by kernel_rfl, by kernel_rfl, by kernel_rfl⟩ hD (FE230 E D (drawW E D) N)
theorem SF231 : Snd 231 F231 := fun E D hD N => Is.sf ⟨_, Tryz.func231, by kernel_rfl, by kernel_rfl, by kernel_rfl⟩ hD (FE231 E D (drawW E D) N)
theorem SF233 : Snd 233 F233 := fun E D hD N => Is.sf ⟨_, Tryz.func233, by kernel_rfl, by kernel_rfl, by kernel_rfl⟩ hD (FE233 E D (drawW E D) N)
theorem SF234 : Snd 234 F234 := fun E D hD N => Is.sf ⟨_, Tryz.func234, by kernel_rfl, by kernel_rfl, by kernel_rfl⟩ hD (FE234 E D (drawW E D) N)
theorem SF244 : Snd 244 F244 := fun E D hD N => Is.sf ⟨_, Tryz.func244, by kernel_rfl, by kernel_rfl, by kernel_rfl⟩ hD (FE244 E D (drawW E D) N)
theorem SF248 : Snd 248 F248 := fun E D hD N => Is.sf ⟨_, Tryz.func248, by kernel_rfl, by kernel_rfl, by kernel_rfl⟩ hD (FE248 E D (drawW E D) N)
theorem SF249 : Snd 249 F249 := fun E D hD N => Is.sf ⟨_, Tryz.func249, by kernel_rfl, by kernel_rfl, by kernel_rfl⟩ hD (FE249 E D (drawW E D) N)
theorem SF252 : Snd 252 F252 := fun E D hD N => Is.sf ⟨_, Tryz.func252, by kernel_rfl, by kernel_rfl, by kernel_rfl⟩ hD (FE252 E D (drawW E D) N)
theorem SF260 : Snd 260 F260 := fun E D hD N => Is.sf ⟨_, Tryz.func260, by kernel_rfl, by kernel_rfl, by kernel_rfl⟩ hD (FE260 E D (drawW E D) N)
theorem SF289 : Snd 289 F289 := fun E D hD N => Is.sf ⟨_, Tryz.func289, by kernel_rfl, by kernel_rfl, by kernel_rfl⟩ hD (FE289 E D (drawW E D) N)
def ftab (E : List (Nat × Blk)) (N : Nat) (D : Den) : List (Nat × (List V → H → Ans)) := [(4, F4 E D (drawW E D) N), (15, F15 E D (drawW E D) N), (17, F17 E D (drawW E D) N), (18, F18 E D (drawW E D) N), (19, F19 E D (drawW E D) N), (20, F20 E D (drawW E D) N), (21, F21 E D (drawW E D) N), (22, F22 E D (drawW E D) N), (23, F23 E D (drawW E D) N), (36, F36 E D (drawW E D) N), (38, F38 E D (drawW E D) N), (39, F39 E D (drawW E D) N), (40, F40 E D (drawW E D) N), (41, F41 E D (drawW E D) N), (42, F42 E D (drawW E D) N), (43, F43 E D (drawW E D) N), (44, F44 E D (drawW E D) N), (45, F45 E D (drawW E D) N), (65, F65 E D (drawW E D) N), (66, F66 E D (drawW E D) N), (69, F69 E D (drawW E D) N), (70, F70 E D (drawW E D) N), (71, F71 E D (drawW E D) N), (72, F72 E D (drawW E D) N), (74, F74 E D (drawW E D) N), (77, F77 E D (drawW E D) N), (84, F84 E D (drawW E D) N), (85, F85 E D (drawW E D) N), (86, F86 E D (drawW E D) N), (87, F87 E D (drawW E D) N), (131, F131 E D (drawW E D) N), (132, F132 E D (drawW E D) N), (136, F136 E D (drawW E D) N), (138, F138 E D (drawW E D) N), (139, F139 E D (drawW E D) N), (141, F141 E D (drawW E D) N), (147, F147 E D (drawW E D) N), (148, F148 E D (drawW E D) N), (149, F149 E D (drawW E D) N), (151, F151 E D (drawW E D) N), (152, F152 E D (drawW E D) N), (156, F156 E D (drawW E D) N), (157, F157 E D (drawW E D) N), (158, F158 E D (drawW E D) N), (159, F159 E D (drawW E D) N), (160, F160 E D (drawW E D) N), (161, F161 E D (drawW E D) N), (162, F162 E D (drawW E D) N), (163, F163 E D (drawW E D) N), (182, F182 E D (drawW E D) N), (230, F230 E D (drawW E D) N), (231, F231 E D (drawW E D) N), (233, F233 E D (drawW E D) N), (234, F234 E D (drawW E D) N), (244, F244 E D (drawW E D) N), (248, F248 E D (drawW E D) N), (249, F249 E D (drawW E D) N), (252, F252 E D (drawW E D) N), (260, F260 E D (drawW E D) N), (289, F289 E D (drawW E D) N)]
def BD (E : List (Nat × Blk)) (N : Nat) (D : Den) : Den := fun f => match lookF (ftab E N D) f with
 | some g => g
 | none => match lookA tab f with
  | some g => runX E D (drawW E D) N g
  | none => fun _ _ => none
theorem BD_ok (E : List (Nat × Blk)) (N : Nat) (D : Den) (hD : ∀ f, SoundFn Tryz.prog E glob f (D f)) (f : FuncId) : SoundFn Tryz.prog E glob f (BD E N D f) := by
 have hall : ∀ p ∈ ftab E N D, SoundFn Tryz.prog E glob p.1 p.2 := by
  unfold ftab
  simp only [List.forall_mem_cons]
  exact ⟨SF4 E _ hD N, SF15 E _ hD N, SF17 E _ hD N, SF18 E _ hD N, SF19 E _ hD N, SF20 E _ hD N, SF21 E _ hD N, SF22 E _ hD N, SF23 E _ hD N, SF36 E _ hD N, SF38 E _ hD N, SF39 E _ hD N, SF40 E _ hD N, SF41 E _ hD N, SF42 E _ hD N, SF43 E _ hD N, SF44 E _ hD N, SF45 E _ hD N, SF65 E _ hD N, SF66 E _ hD N, SF69 E _ hD N, SF70 E _ hD N, SF71 E _ hD N, SF72 E _ hD N, SF74 E _ hD N, SF77 E _ hD N, SF84 E _ hD N, SF85 E _ hD N, SF86 E _ hD N, SF87 E _ hD N, SF131 E _ hD N, SF132 E _ hD N, SF136 E _ hD N, SF138 E _ hD N, SF139 E _ hD N, SF141 E _ hD N, SF147 E _ hD N, SF148 E _ hD N, SF149 E _ hD N, SF151 E _ hD N, SF152 E _ hD N, SF156 E _ hD N, SF157 E _ hD N, SF158 E _ hD N, SF159 E _ hD N, SF160 E _ hD N, SF161 E _ hD N, SF162 E _ hD N, SF163 E _ hD N, SF182 E _ hD N, SF230 E _ hD N, SF231 E _ hD N, SF233 E _ hD N, SF234 E _ hD N, SF244 E _ hD N, SF248 E _ hD N, SF249 E _ hD N, SF252 E _ hD N, SF260 E _ hD N, SF289 E _ hD N, fun _ h => by cases h⟩
 unfold BD
 split
 ·rename_i g hg
  rw [lookF_eq] at hg
  exact hall _ (look_mem hg)
 ·split
  ·rename_i g hg
   exact (tab_is _ (lookA_mem _ _ _ hg)).sound E _ hD N
  ·intro C _ _ R σ w args xs v σ' h; cases h
def DT (E : List (Nat × Blk)) (N : Nat) (d : Nat) : Den := Nat.rec (fun _ _ _ => none) (fun _ ih => BD E N ih) d
theorem DT_ok (E : List (Nat × Blk)) (N : Nat) : ∀ (d : Nat) (f : FuncId), SoundFn Tryz.prog E glob f (DT E N d f) := by
 intro d
 induction d with
 | zero => intro f C _ _ R σ w args xs v σ' h; cases h
 | succ d ih => exact BD_ok E N _ ih
theorem globLt : ∀ g, glob g = true → g < 2 := fun g hg => by simpa [glob] using hg
end
end Go.Proofs.YtgjjnbddbbhloaaGreatDoor
namespace Go.Og
noncomputable section
theorem ble_of {a b : Nat} (h : a ≤ b) : Nat.ble a b = true := by rw [Nat.ble_eq]; exact h
def Atc (σ : H) (b : Nat) (l : List V) : Prop := lookF σ.bl b = some (.cells l)
def Tidy (σ : H) : Prop := ∀ b, σ.next ≤ b → lookF σ.bl b = none
structure Fr (S : Nat → Prop) (σ σ' : H) : Prop where
 tidy : Tidy σ'
 le : σ.next ≤ σ'.next
 same : ∀ b, b < σ.next → ¬ S b → lookF σ'.bl b = lookF σ.bl b
def Nowhere : Nat → Prop := fun _ => False
def Names (v : V) (b : Nat) : Prop := match v with
 | .sl b' _ _ _ => b = b'
 | _ => False
section
variable {E : List (Nat × Blk)} {σ σ' σ'' : H} {b b' : Nat} {l m : List V} {S T : Nat → Prop}
theorem Atc.lt (h : Atc σ b l) (ht : Tidy σ) : b < σ.next := by
 rcases Nat.lt_or_ge b σ.next with hl | hl
 ·exact hl
 ·have := ht b hl; rw [show lookF σ.bl b = some (.cells l) from h] at this; cases this
theorem Fr.refl (ht : Tidy σ) : Fr S σ σ := ⟨ht, Nat.le_refl _, fun _ _ _ => rfl⟩
theorem Fr.mono (h : Fr S σ σ') (hs : ∀ b, b < σ.next → S b → T b) : Fr T σ σ' := ⟨h.tidy, h.le, fun b hb hn => h.same b hb fun hS => hn (hs b hb hS)⟩
theorem Fr.trans (h : Fr S σ σ') (k : Fr T σ' σ'') (hT : ∀ b, b < σ.next → T b → S b) : Fr S σ σ'' :=
 ⟨k.tidy, Nat.le_trans h.le k.le, fun b hb hn => (k.same b (Nat.lt_of_lt_of_le hb h.le) fun hT' => hn (hT b hb hT')).trans (h.same b hb hn)⟩
theorem Fr.at_ (h : Fr S σ σ') (ha : Atc σ b l) (ht : Tidy σ) (hn : ¬ S b) : Atc σ' b l := (h.same b (ha.lt ht) hn).trans ha
theorem lookF_setF (c : Blk) (k : Nat) : lookF (setF σ b c).bl k = if b = k then some c else lookF σ.bl k := by
 rw [lookF_eq, lookF_eq]; exact look_setF σ b c k
theorem Atc_setF (m : List V) : Atc (setF σ b (.cells m)) b m := by
 show lookF _ _ = _
 rw [lookF_setF, if_pos rfl]
theorem Fr.set (ht : Tidy σ) (hb : b < σ.next) (c : Blk) : Fr (fun k => k = b) σ (setF σ b c) := by
 refine ⟨fun k hk => ?_, Nat.le_refl _, fun k hk hn => ?_⟩
 ·have hk' : σ.next ≤ k := hk
  rw [lookF_setF, if_neg (by omega)]; exact ht k hk'
 ·rw [lookF_setF, if_neg (fun h => hn h.symm)]
theorem Atc_newB (l : List V) : Atc (newB σ (.cells l)) σ.next l := by
 show lookF ((σ.next, Blk.cells l) :: σ.bl) _ = _
 rw [lookF_cons, if_pos rfl]
theorem Fr.new (ht : Tidy σ) (c : Blk) : Fr S σ (newB σ c) := by
 refine ⟨fun k hk => ?_, Nat.le_succ _, fun k hk hn => ?_⟩
 ·have hk' : σ.next + 1 ≤ k := hk
  show lookF ((σ.next, c) :: σ.bl) _ = _
  rw [lookF_cons, if_neg (by omega)]; exact ht k (by omega)
 ·show lookF ((σ.next, c) :: σ.bl) _ = _
  rw [lookF_cons, if_neg (by omega)]
theorem rdK_at {κ : List V → Ans} (h : Atc σ b l) : rdK E σ b κ = κ l := by unfold rdK; rw [show lookF σ.bl b = some (.cells l) from h]
theorem nthK_of {κ : V → Ans} {o : Nat} {v : V} (h : nthF l o = some v) : nthK l o κ = κ v := by unfold nthK; rw [h]
theorem ldK_at {κ : V → Ans} {o : Nat} {v : V} (h : Atc σ b l) (hv : nthF l o = some v) : ldK E σ b o κ = κ v := (rdK_at h).trans (nthK_of hv)
theorem ldK_get {κ : V → Ans} {o : Nat} {v : V} (h : Atc σ b l) (hv : l[o]? = some v) : ldK E σ b o κ = κ v := ldK_at h (by rw [nthF_eq]; exact hv)
theorem subK_of {κ : List V → Ans} {o n : Nat} (h : o + n ≤ l.length) : subK l o n κ = κ ((l.drop o).take n) := by
 unfold subK; rw [show Nat.ble (Nat.add o n) l.length = true from ble_of h]
theorem chk_true {c : Bool} {a : Ans} (h : c = true) : chk c a = a := by rw [h]; rfl
theorem stK_at {κ : H → Ans} {n o : Nat} {v : V} (h : Atc σ b l) (hc : (Nat.beq v.cells.length n && Nat.ble (Nat.add o n) l.length && allOne v.cells) = true) : stK n b o v σ κ = κ (setF σ b (.cells (spl l o v.cells))) := by
 unfold stK; rw [show lookF σ.bl b = some (.cells l) from h]; exact chk_true hc
theorem ltF_nat (m n : Nat) : ltF (Int.ofNat m) (Int.ofNat n) = decide (m < n) := by
 rw [ltF_eq]; simp
theorem leF_nat (m n : Nat) : leF (Int.ofNat m) (Int.ofNat n) = decide (m ≤ n) := by
 rw [leF_eq]; simp
theorem eqF_nat (m n : Nat) : eqF (Int.ofNat m) (Int.ofNat n) = decide (m = n) := by
 rw [eqF_eq]; rw [Bool.eq_iff_iff]; simp only [beq_iff_eq, decide_eq_true_eq]; exact ⟨fun h => Int.ofNat.inj h, fun h => by rw [h]⟩
theorem wrapF_nat {k : IntKind} {m : Nat} (h : m ≤ maxN k) : wrapF k (Int.ofNat m) = Int.ofNat m :=
 (wrapF_eq _ _).trans (wrap_in (show Nat.ble m (maxN k) = true from ble_of h))
theorem addF_nat {m n : Nat} (h : m + n ≤ 9223372036854775807) : addF .i64 (Int.ofNat m) (Int.ofNat n) = Int.ofNat (m + n) := by
 exact wrapF_nat (k := .i64) (m := m + n) h
theorem subF_nat {m n : Nat} (h : n ≤ m) (hm : m ≤ 9223372036854775807) : subF .i64 (Int.ofNat m) (Int.ofNat n) = Int.ofNat (m - n) := by
 have e : Int.sub (Int.ofNat m) (Int.ofNat n) = Int.ofNat (m - n) := by
  show (m : Int) - (n : Int) = ((m - n : Nat) : Int)
  omega
 show wrapF .i64 (Int.sub (Int.ofNat m) (Int.ofNat n)) = _
 rw [e]
 exact wrapF_nat (k := .i64) (show m - n ≤ 9223372036854775807 by omega)
def Sl (σ : H) (esz k : Nat) (v : V) (l : List V) : Prop := (k = 0 ∧ v = .nils ∧ l = []) ∨ (∃ b, v = .sl b 0 k (.op esz) ∧ Atc σ b l ∧ 0 < k ∧ l.length = k * esz)
theorem Sl.nil (σ : H) (esz : Nat) : Sl σ esz 0 .nils [] := .inl ⟨rfl, rfl, rfl⟩
theorem Sl.length {esz k : Nat} {v : V} (h : Sl σ esz k v l) : l.length = k * esz := by
 rcases h with ⟨rfl, _, rfl⟩ | ⟨b, _, _, _, h⟩
 ·simp
 ·exact h
theorem Sl.fr {esz k : Nat} {v : V} (h : Sl σ esz k v l) (f : Fr S σ σ') (ht : Tidy σ) (hn : ∀ b, Names v b → ¬ S b) : Sl σ' esz k v l := by
 rcases h with h | ⟨b, rfl, ha, hk, hl⟩
 ·exact .inl h
 ·exact .inr ⟨b, rfl, f.at_ ha ht (hn b rfl), hk, hl⟩
theorem Sl.one {esz k : Nat} {v : V} (h : Sl σ esz k v l) : v.one = true := by
 rcases h with ⟨_, rfl, _⟩ | ⟨b, rfl, _⟩ <;> rfl
theorem Sl.slen {esz k : Nat} {v : V} {κ : Nat → Ans} (h : Sl σ esz k v l) : slenK v κ = κ k := by
 rcases h with ⟨rfl, rfl, _⟩ | ⟨b, rfl, _⟩ <;> rfl
theorem Sl.lt {esz k : Nat} {v : V} (h : Sl σ esz k v l) (ht : Tidy σ) (hb : Names v b) : b < σ.next := by
 rcases h with ⟨_, rfl, _⟩ | ⟨c, rfl, ha, _⟩
 ·exact hb.elim
 ·cases hb; exact ha.lt ht
theorem srcK_ex {esz n xb xo : Nat} {c' : Cap} {κ : Nat → List V → Ans} (h : Atc σ xb m) (hl : xo + n * esz ≤ m.length) : srcK E σ esz (.sl xb xo n c') κ = κ n ((m.drop xo).take (n * esz)) :=
 (rdK_at h).trans (subK_of hl)
theorem rtOne_sl {b o n : Nat} {c : Cap} {a : Ans} : rtOne (.sl b o n c) a = a := rfl
theorem iaddrSK_lt {esz b o n i : Nat} {c : Cap} {κ : Nat → Nat → Ans} (h : i < n) : iaddrSK esz (.sl b o n c) (Int.ofNat i) κ = κ b (Nat.add o (Nat.mul i esz)) := by
 show chk (Nat.blt i n) _ = _
 exact chk_true (by simpa [Nat.blt_eq] using h)
theorem lookF_drop (l : List (Nat × Blk)) (id id' : Nat) : lookF (drop l id) id' = if id = id' then none else lookF l id' := by
 rw [lookF_eq, lookF_eq]; exact look_drop l id id'
end
theorem rtInt_int (k : IntKind) (n : Int) (κ : Int → Ans) : rtInt k (.int k n) κ = κ n := by simp [rtInt]
theorem rtBool_bool (b : Bool) (κ : Bool → Ans) : rtBool (.bool b) κ = κ b := rfl
theorem rtStr_str (s : BS) (κ : BS → Ans) : rtStr (.str s) κ = κ s := rfl
theorem rtPtr_ptr (b o : Nat) (κ : Nat → Nat → Ans) : rtPtr (.ptr b o) κ = κ b o := rfl
theorem rtAgg_agg (l : List V) (κ : List V → Ans) : rtAgg (.agg l) κ = κ l := rfl
theorem rtTup_tup (l : List V) (κ : List V → Ans) : rtTup (.tup l) κ = κ l := rfl
theorem rtCons_cons (v : V) (l : List V) (κ : V → List V → Ans) : rtCons (v :: l) κ = κ v l := rfl
theorem rtNil_nil (a : Ans) : rtNil [] a = a := rfl
theorem callK_some_ (v : V) (σ : H) (κ : V → H → Ans) : callK (some (v, σ)) κ = κ v σ := rfl
def BS.nats (s : BS) : List Nat := s.toList.map UInt8.toNat
theorem BS.length_nats (s : BS) : s.nats.length = s.len := by simp [BS.nats, BS.length_toList]
theorem BS.nats_get {s : BS} {i : Nat} (h : i < s.len) : s.nats[i]? = some (s.get i) := by
 simp only [BS.nats, List.getElem?_map, BS.getElem?_toList, if_pos h, Option.map_some, UInt8.toNat_ofNat']
 rw [Nat.mod_eq_of_lt (s.get_lt i)]
theorem BS.nats_lt (s : BS) : ∀ c ∈ s.nats, c < 256 := by
 intro c hc
 simp only [BS.nats, List.mem_map] at hc
 obtain ⟨u, _, rfl⟩ := hc
 exact u.toNat_lt
theorem BS.nats_sub {s : BS} {lo hi : Nat} (h : hi ≤ s.len) : (s.sub lo hi).nats = (s.nats.drop lo).take (hi - lo) := by
 simp [BS.nats, BS.toList_sub h]
theorem nats_inj {l m : List UInt8} (h : l.map UInt8.toNat = m.map UInt8.toNat) : l = m := by
 have hm := congrArg (List.map UInt8.ofNat) h
 simpa [List.map_map, Function.comp_def] using hm
theorem BS.beq_nats (a b : BS) : a.beq b = decide (a.nats = b.nats) := by
 rw [BS.beq_eq]
 rw [Bool.eq_iff_iff]
 simp only [decide_eq_true_eq]
 exact ⟨fun h => by rw [BS.nats, h, ← BS.nats], fun h => nats_inj h⟩
def BS.canon (s : BS) : Prop := s.val < 2 ^ (8 * s.len)
theorem BS.canon_low {s : BS} (h : s.canon) : s.low = s.val := Nat.mod_eq_of_lt h
theorem BS.canon_ext {a b : BS} (ha : a.canon) (hb : b.canon) (h : a.nats = b.nats) : a = b := by
 have ht := nats_inj h
 obtain ⟨hl, hg⟩ := BS.get_eq ht
 have := (BS.low_eq hl).2 hg
 rw [BS.canon_low ha, BS.canon_low hb] at this
 cases a; cases b
 simp only [] at hl this
 subst hl; subst this; rfl
theorem BS.sub_canon (s : BS) (lo hi : Nat) : (s.sub lo hi).canon := Nat.mod_lt _ (Nat.pow_pos (by decide))
def ofN : List Nat → BS
 | [] => ⟨0, 0⟩
 | c :: l => ⟨Nat.succ (ofN l).len, Nat.add c (Nat.mul 256 (ofN l).val)⟩
theorem ofN_eq : ∀ {l : List Nat}, (∀ c ∈ l, c < 256) → ofN l = BS.ofList (l.map UInt8.ofNat)
 | [], _ => rfl
 | c :: l, h => by
  have hc : (UInt8.ofNat c).toNat = c := by simp only [UInt8.toNat_ofNat']; exact Nat.mod_eq_of_lt (h c (by simp))
  have ih := ofN_eq (l := l) (fun d hd => h d (List.mem_cons_of_mem _ hd))
  show BS.mk (Nat.succ (ofN l).len) (Nat.add c (Nat.mul 256 (ofN l).val)) = BS.mk (Nat.succ (BS.ofList (l.map UInt8.ofNat)).len) (Nat.add (UInt8.ofNat c).toNat (Nat.mul 256 (BS.ofList (l.map UInt8.ofNat)).val))
  rw [ih, hc]
theorem ofN_nats {l : List Nat} (h : ∀ c ∈ l, c < 256) : (ofN l).nats = l := by
 rw [ofN_eq h]
 apply List.ext_getElem?
 intro i
 by_cases hi : i < l.length
 ·have hl : (BS.ofList (l.map UInt8.ofNat)).len = l.length := by rw [BS.len_ofList, List.length_map]
  rw [BS.nats_get (by omega)]
  have hc : (l.map UInt8.ofNat)[i]? = some (UInt8.ofNat l[i]) := by simp [hi]
  rw [BS.get_ofList _ _ _ hc]
  simp only [UInt8.toNat_ofNat', List.getElem?_eq_getElem hi]
  rw [Nat.mod_eq_of_lt (h _ (List.getElem_mem hi))]
 ·rw [List.getElem?_eq_none (by rw [BS.length_nats, BS.len_ofList, List.length_map]; omega), List.getElem?_eq_none (by omega)]
theorem ofN_canon : ∀ {l : List Nat}, (∀ c ∈ l, c < 256) → (ofN l).canon
 | [], _ => by show 0 < 2 ^ (8 * 0); decide
 | c :: l, h => by
  have ih : (ofN l).val < 2 ^ (8 * (ofN l).len) := ofN_canon (fun d hd => h d (by simp [hd]))
  have hc := h c (by simp)
  show c + 256 * (ofN l).val < 2 ^ (8 * ((ofN l).len + 1))
  have e : 2 ^ (8 * ((ofN l).len + 1)) = 256 * 2 ^ (8 * (ofN l).len) := by
   rw [Nat.mul_add, Nat.pow_add]; simp [Nat.mul_comm]
  rw [e]; omega
theorem sub_ofN {s : BS} {lo hi : Nat} (h : hi ≤ s.len) : s.sub lo hi = ofN ((s.nats.drop lo).take (hi - lo)) := by
 have hb : ∀ c ∈ (s.nats.drop lo).take (hi - lo), c < 256 := fun c hc => s.nats_lt c (List.mem_of_mem_drop (List.mem_of_mem_take hc))
 exact BS.canon_ext (s.sub_canon lo hi) (ofN_canon hb) (by rw [BS.nats_sub h, ofN_nats hb])
def Rst (s : BS) (i : Nat) (r : List Nat) : Prop := i ≤ s.len ∧ s.nats.drop i = r
section
variable {s : BS} {i : Nat} {r : List Nat}
theorem Rst.start (s : BS) : Rst s 0 s.nats := ⟨Nat.zero_le _, rfl⟩
theorem Rst.len (h : Rst s i r) : i + r.length = s.len := by
 have := congrArg List.length h.2
 rw [List.length_drop, BS.length_nats] at this
 have := h.1; omega
theorem Rst.drop (h : Rst s i r) {k : Nat} (hk : k ≤ r.length) : Rst s (i + k) (r.drop k) := by
 refine ⟨by have := h.len; omega, ?_⟩
 rw [← h.2, List.drop_drop]
theorem Rst.tail {c : Nat} (h : Rst s i (c :: r)) : Rst s (i + 1) r := h.drop (k := 1) (by simp)
theorem Rst.sub (h : Rst s i r) {k : Nat} (hk : k ≤ r.length) : s.sub i (i + k) = ofN (r.take k) := by
 have := h.len
 rw [sub_ofN (by omega), h.2, Nat.add_sub_cancel_left]
end
end
noncomputable section
section
variable {E : List (Nat × Blk)} {D : Den} {n0 n i : Nat} {o : AOper} {l : List AOper} {p : DP} {pl : List DP} {s : DS} {v : V}
theorem dsteps_p (hg : o.guard = none) (hc : o.op.cls = .p) (hv : aopP o.op (restr p.looks s.e) = some v) :
  dsteps E D n0 n i (o :: l) (p :: pl) s = dsteps E D n0 n (i + 1) l pl { s with e := putE s.e o.dst v } := by
 have h : dstep E D n0 n i o p s = some { s with e := putE s.e o.dst v } := by unfold dstep; rw [hg]; simp only [wantedA, hc, hv]
 show (match dstep E D n0 n i o p s with | none => none | some s' => dsteps E D n0 n (i + 1) l pl s') = _
 rw [h]
theorem dsteps_l {h : List (Nat × Blk)} {ss : List (List (Nat × Blk))} (hg : o.guard = none) (hc : o.op.cls = .l) (hs : s.ss = h :: ss) (hv : aopL E o.op (restr p.looks s.e) ⟨s.nx, hideB n0 n (visK p.anc s.am) h⟩ = some v) :
  dsteps E D n0 n i (o :: l) (p :: pl) s = dsteps E D n0 n (i + 1) l pl { s with e := putE s.e o.dst v, ls := (i, o.op, restr p.looks s.e, v) :: s.ls } := by
 have h : dstep E D n0 n i o p s = some { s with e := putE s.e o.dst v, ls := (i, o.op, restr p.looks s.e, v) :: s.ls } := by unfold dstep; rw [hg]; simp only [wantedA, hc, hs, hv]
 show (match dstep E D n0 n i o p s with | none => none | some s' => dsteps E D n0 n (i + 1) l pl s') = _
 rw [h]
theorem dsteps_a {b : Blk} (hg : o.guard = none) (hc : o.op.cls = .a) (hv : aopA o.op (restr p.looks s.e) (n0 + i) = some (v, b)) :
  dsteps E D n0 n i (o :: l) (p :: pl) s = dsteps E D n0 n (i + 1) l pl { s with e := putE s.e o.dst v, ss := s.ss.map ((n0 + i, b) :: ·), am := s.am ||| 2 ^ i } := by
 have h : dstep E D n0 n i o p s = some { s with e := putE s.e o.dst v, ss := s.ss.map ((n0 + i, b) :: ·), am := s.am ||| 2 ^ i } := by unfold dstep; rw [hg]; simp only [wantedA, hc, hv]
 show (match dstep E D n0 n i o p s with | none => none | some s' => dsteps E D n0 n (i + 1) l pl s') = _
 rw [h]
theorem dsteps_a' {b : Blk} {id am' : Nat} (hg : o.guard = none) (hc : o.op.cls = .a) (hid : n0 + i = id) (ham : s.am ||| 2 ^ i = am') (hv : aopA o.op (restr p.looks s.e) id = some (v, b)) :
  dsteps E D n0 n i (o :: l) (p :: pl) s = dsteps E D n0 n (i + 1) l pl { s with e := putE s.e o.dst v, ss := s.ss.map ((id, b) :: ·), am := am' } := by
 subst hid; subst ham
 exact dsteps_a hg hc hv
theorem dsteps_k {h : List (Nat × Blk)} {ss : List (List (Nat × Blk))} {σ' : H} (hg : o.guard = none) (hc : o.op.cls = .k) (hs : s.ss = h :: ss) (hv : den1 E D o.op (restr p.looks s.e) ⟨s.nx, hideB n0 n (visK p.anc s.am) h⟩ = some (v, σ')) :
  dsteps E D n0 n i (o :: l) (p :: pl) s = dsteps E D n0 n (i + 1) l pl { s with e := putE s.e o.dst v, nx := σ'.next, ss := (keepB n0 n (visK p.anc s.am) h ++ σ'.bl) :: s.ss, ks := i :: s.ks } := by
 have h : dstep E D n0 n i o p s = some { s with e := putE s.e o.dst v, nx := σ'.next, ss := (keepB n0 n (visK p.anc s.am) h ++ σ'.bl) :: s.ss, ks := i :: s.ks } := by unfold dstep; rw [hg]; simp only [wantedA, hc, hs, hv]
 show (match dstep E D n0 n i o p s with | none => none | some s' => dsteps E D n0 n (i + 1) l pl s') = _
 rw [h]
theorem dsteps_nil : dsteps E D n0 n i [] pl s = some s := by cases pl <;> rfl
theorem drawW_of {ops : List AOper} {e : Env} {σ : H} {h : List (Nat × Blk)} {ss : List (List (Nat × Blk))} (hd : dsteps E D σ.next ops.length 0 ops pl ⟨e, σ.next + ops.length, [σ.bl], [], 0, []⟩ = some s)
  (hl : s.ls.all (fun (j, op, em, v) => checkL E σ.next ops.length pl s.am j op em v s.ss s.ks []) = true) (hs : s.ss = h :: ss) :
  drawW E D ops pl e σ = some (s.e, ⟨s.nx, hideB σ.next ops.length (fun k => s.am.testBit k) h⟩) := by
 unfold drawW
 rw [hd]
 show (if s.ls.all (fun (j, op, em, v) => checkL E σ.next ops.length pl s.am j op em v s.ss s.ks []) = true then _ else none) = _
 rw [if_pos hl, hs]
end
section
variable {E : List (Nat × Blk)} {n0 n am j : Nat} {pl : List DP} {op : AOp} {em : Env} {v : V} {h : List (Nat × Blk)} {ss : List (List (Nat × Blk))} {k : Nat} {ks more : List Nat}
end
section
variable {n0 n : Nat} {p : Nat → Bool} {l : List (Nat × Blk)}
theorem hide_keep : ∀ {l : List (Nat × Blk)}, (∀ i, i < n → p i = false → look l (n0 + i) = none) → hideB n0 n p l = l ∧ keepB n0 n p l = []
 | [], _ => ⟨rfl, rfl⟩
 | (k, b) :: l, h => by
  have hc : (Nat.ble n0 k && Nat.blt k (n0 + n) && !p (k - n0)) = false := by
   cases hb : (Nat.ble n0 k && Nat.blt k (n0 + n) && !p (k - n0)) with
   | false => rfl
   | true =>
    exfalso
    simp only [Bool.and_eq_true, Nat.ble_eq, Nat.blt_eq, Bool.not_eq_true'] at hb
    have := h (k - n0) (by omega) hb.2
    rw [show n0 + (k - n0) = k by omega] at this
    simp [look] at this
  have ih := hide_keep (l := l) (fun i hi hp => by
   have := h i hi hp
   simp only [look] at this
   split at this
   ·cases this
   ·exact this)
  unfold hideB keepB
  rw [hc]
  simp only [Bool.false_eq_true, if_false]
  exact ⟨by rw [ih.1], ih.2⟩
theorem Tidy.gap {σ : H} (h : Tidy σ) (n : Nat) : ∀ id, σ.next ≤ id → id < σ.next + n → look σ.bl id = none := fun id h1 _ => by
 have := h id h1; rwa [lookF_eq] at this
theorem Tidy.wide {σ : H} (h : Tidy σ) (n : Nat) : Tidy ⟨σ.next + n, σ.bl⟩ := fun b hb => h b (by have : σ.next + n ≤ b := hb; omega)
theorem Fr.wide {S : Nat → Prop} {σ σ' : H} {n : Nat} (f : Fr S ⟨σ.next + n, σ.bl⟩ σ') : Fr S σ σ' :=
 ⟨f.tidy, by have : σ.next + n ≤ σ'.next := f.le; omega, fun b hb hn => f.same b (show b < σ.next + n by omega) hn⟩
theorem Fr.gap {S : Nat → Prop} {σ σ' : H} {n : Nat} (f : Fr S ⟨σ.next + n, σ.bl⟩ σ') (ht : Tidy σ) (hS : ∀ b, S b → b < σ.next) : ∀ id, σ.next ≤ id → id < σ.next + n → look σ'.bl id = none := fun id h1 h2 => by
 have := f.same id h2 (fun hs => by have := hS id hs; omega)
 rw [← lookF_eq, this]
 exact ht id h1
theorem look_hide_old {id : Nat} (h : id < n0) : look (hideB n0 n p l) id = look l id := by
 rw [look_hideB, if_neg (by omega)]
theorem look_cons_ne {α : Type} {k id : Nat} {b : α} {l : List (Nat × α)} (h : k ≠ id) : look ((k, b) :: l) id = look l id := by simp [look, h]
theorem load_of {E : List (Nat × Blk)} {x : AO} {e : Env} {b off nx : Nat} {h : List (Nat × Blk)} {c : List V} {v : V} (hx : opv e x = .ptr b off) (hl : look h b = some (.cells c)) (hv : c[off]? = some v) :
  aopL E (.load none x) e ⟨nx, h⟩ = some v := by
 unfold aopL
 simp only [hx, rd, hl, hv]
end
section
variable {E : List (Nat × Blk)} {D : Den} {n0 n i : Nat} {d : Option Nat} {o : AOp} {l : List AOper} {anc : Nat} {lk : List Nat} {pl : List DP} {e : Env} {nx am : Nat} {ss : List (List (Nat × Blk))} {h : List (Nat × Blk)} {ks : List Nat} {ls : List (Nat × AOp × Env × V)}
theorem dp (v : V) (hc : o.cls = .p) (hv : aopP o (restr lk e) = some v) : dsteps E D n0 n i (⟨d, o, none⟩ :: l) (⟨anc, lk⟩ :: pl) ⟨e, nx, ss, ks, am, ls⟩ = dsteps E D n0 n (i + 1) l pl ⟨putE e d v, nx, ss, ks, am, ls⟩ :=
 dsteps_p rfl hc hv
theorem dl (v : V) (hc : o.cls = .l) (hv : aopL E o (restr lk e) ⟨nx, hideB n0 n (visK anc am) h⟩ = some v) : dsteps E D n0 n i (⟨d, o, none⟩ :: l) (⟨anc, lk⟩ :: pl) ⟨e, nx, h :: ss, ks, am, ls⟩ = dsteps E D n0 n (i + 1) l pl ⟨putE e d v, nx, h :: ss, ks, am, (i, o, restr lk e, v) :: ls⟩ :=
 dsteps_l rfl hc rfl hv
theorem da (v : V) (b : Blk) (id am' : Nat) (hc : o.cls = .a) (hid : n0 + i = id) (ham : am ||| 2 ^ i = am') (hv : aopA o (restr lk e) id = some (v, b)) : dsteps E D n0 n i (⟨d, o, none⟩ :: l) (⟨anc, lk⟩ :: pl) ⟨e, nx, ss, ks, am, ls⟩ = dsteps E D n0 n (i + 1) l pl ⟨putE e d v, nx, ss.map ((id, b) :: ·), ks, am', ls⟩ :=
 dsteps_a' rfl hc hid ham hv
theorem dk (v : V) (nx' : Nat) (bl' : List (Nat × Blk)) (hc : o.cls = .k) (hk : hideB n0 n (visK anc am) h = h ∧ keepB n0 n (visK anc am) h = []) (hv : den1 E D o (restr lk e) ⟨nx, h⟩ = some (v, ⟨nx', bl'⟩)) : dsteps E D n0 n i (⟨d, o, none⟩ :: l) (⟨anc, lk⟩ :: pl) ⟨e, nx, h :: ss, ks, am, ls⟩ = dsteps E D n0 n (i + 1) l pl ⟨putE e d v, nx', bl' :: h :: ss, i :: ks, am, ls⟩ := by
 have := dsteps_k (E := E) (D := D) (n0 := n0) (n := n) (i := i) (o := ⟨d, o, none⟩) (l := l) (p := ⟨anc, lk⟩) (pl := pl) (s := ⟨e, nx, h :: ss, ks, am, ls⟩) (v := v) (σ' := ⟨nx', bl'⟩) rfl hc rfl (by show den1 E D o (restr lk e) ⟨nx, hideB n0 n (visK anc am) h⟩ = _; rw [hk.1]; exact hv)
 rw [this]
 show dsteps E D n0 n (i + 1) l pl ⟨putE e d v, nx', (keepB n0 n (visK anc am) h ++ bl') :: h :: ss, i :: ks, am, ls⟩ = _
 rw [hk.2]; rfl
end
end
noncomputable section
mutual
def V.rn (ρ : Nat → Nat) : V → V
 | .ptr b o => .ptr (ρ b) o
 | .sl b o n c => .sl (ρ b) o n c
 | .sle b o k e => .sle (ρ b) o k e
 | .mp b => .mp (ρ b)
 | .fn f a c => .fn f (rns ρ a) (rns ρ c)
 | .ifc t v => .ifc t (V.rn ρ v)
 | .agg l => .agg (rns ρ l)
 | .tup l => .tup (rns ρ l)
 | v => v
def rns (ρ : Nat → Nat) : List V → List V
 | [] => []
 | v :: l => V.rn ρ v :: rns ρ l
end
mutual
def V.inn (p : Nat → Bool) : V → Bool
 | .dead => false
 | .ptr b _ => p b
 | .sl b _ _ _ => p b
 | .sle b _ _ _ => p b
 | .mp b => p b
 | .fn _ a c => inns p a && inns p c
 | .ifc _ v => V.inn p v
 | .agg l => inns p l
 | .tup l => inns p l
 | _ => true
def inns (p : Nat → Bool) : List V → Bool
 | [] => true
 | v :: l => V.inn p v && inns p l
end
section
variable {R S : Ren} {p : Nat → Bool} {ρ : Nat → Nat}
mutual
theorem conc_rn (h : ∀ b, p b = true → S (ρ b) = R b) : ∀ v : V, V.inn p v = true → conc S (V.rn ρ v) = conc R v
 | .dead, hc => by simp [V.inn] at hc
 | .ptr b o, hc => by
  simp only [V.inn] at hc
  simp only [V.rn, conc, h b hc]
 | .sl b o n (.ex c), hc => by
  simp only [V.inn] at hc
  simp only [V.rn, conc, h b hc]
 | .sl b o n (.op c), hc => by
  simp only [V.inn] at hc
  simp only [V.rn, conc, h b hc]
 | .sle b o k e, hc => by
  simp only [V.inn] at hc
  simp only [V.rn, conc, h b hc]
 | .mp b, hc => by
  simp only [V.inn] at hc
  simp only [V.rn, conc, h b hc]
 | .bool _, _ => rfl
 | .int _ _, _ => rfl
 | .str _, _ => rfl
 | .nilp, _ => rfl
 | .nils, _ => rfl
 | .nilm, _ => rfl
 | .nilf, _ => rfl
 | .nili, _ => rfl
 | .fn f a c, hc => by
  simp only [V.inn, Bool.and_eq_true] at hc
  simp only [V.rn, conc, concs_rn h a hc.1, concs_rn h c hc.2]
 | .ifc t v, hc => by
  simp only [V.inn] at hc
  simp only [V.rn, conc, conc_rn h v hc]
 | .agg l, hc => by
  simp only [V.inn] at hc
  simp only [V.rn, conc, concs_rn h l hc]
 | .tup l, hc => by
  simp only [V.inn] at hc
  simp only [V.rn, conc, concs_rn h l hc]
theorem concs_rn (h : ∀ b, p b = true → S (ρ b) = R b) : ∀ l : List V, inns p l = true → concs S (rns ρ l) = concs R l
 | [], _ => rfl
 | v :: l, hc => by
  simp only [inns, Bool.and_eq_true] at hc
  simp only [rns, concs, conc_rn h v hc.1, concs_rn h l hc.2]
end
theorem rns_get : ∀ (l : List V) (k : Nat), (rns ρ l)[k]? = (l[k]?).map (V.rn ρ)
 | [], k => by simp [rns]
 | v :: l, 0 => by simp [rns]
 | v :: l, k + 1 => by simpa [rns] using rns_get l k
theorem rns_length : ∀ (l : List V), (rns ρ l).length = l.length
 | [] => rfl
 | v :: l => by simp [rns, rns_length l]
theorem inns_get : ∀ {l : List V} {k : Nat} {v : V}, inns p l = true → l[k]? = some v → V.inn p v = true
 | [], k, v, _, h => by simp at h
 | u :: l, 0, v, hc, h => by
  simp only [inns, Bool.and_eq_true] at hc
  simp at h; subst h; exact hc.1
 | u :: l, k + 1, v, hc, h => by
  simp only [inns, Bool.and_eq_true] at hc
  exact inns_get hc.2 (by simpa using h)
def rnp (ρ : Nat → Nat) : List (V × V) → List (V × V)
 | [] => []
 | q :: l => (V.rn ρ q.1, V.rn ρ q.2) :: rnp ρ l
def innp (p : Nat → Bool) : List (V × V) → Bool
 | [] => true
 | q :: l => V.inn p q.1 && V.inn p q.2 && innp p l
def Blk.rn (ρ : Nat → Nat) : Blk → Blk
 | .cells l => .cells (rns ρ l)
 | .map l => .map (rnp ρ l)
 | .siter s q => .siter s q
 | .unit t => .unit t
def Blk.inn (p : Nat → Bool) : Blk → Bool
 | .cells l => inns p l
 | .map l => innp p l
 | .siter _ _ => true
 | .unit _ => true
theorem MapHolds.rn (h : ∀ b, p b = true → S (ρ b) = R b) : ∀ {l : List (V × V)} {es : List MapEntry}, innp p l = true → (MapHolds S (rnp ρ l) es ↔ MapHolds R l es)
 | [], [], _ => Iff.rfl
 | (a, b) :: l, e :: es, hc => by
  simp only [innp, Bool.and_eq_true] at hc
  simp only [rnp, MapHolds, conc_rn h a hc.1.1, conc_rn h b hc.1.2, MapHolds.rn h hc.2]
 | [], _ :: _, _ => Iff.rfl
 | _ :: _, [], _ => Iff.rfl
theorem Holds.rn (h : ∀ b, p b = true → S (ρ b) = R b) {s : Nat} {l : List V} {arr : Array Value} (hc : inns p l = true) : Holds S s (rns ρ l) arr ↔ Holds R s l arr := by
 constructor
 ·intro hh k v hk
  obtain ⟨a, ha, h1, h2⟩ := hh k (V.rn ρ v) (by rw [rns_get, hk]; rfl)
  exact ⟨a, (conc_rn h v (inns_get hc hk)).symm.trans ha, h1, h2⟩
 ·intro hh k v hk
  rw [rns_get, Option.map_eq_some_iff] at hk
  obtain ⟨u, hu, rfl⟩ := hk
  obtain ⟨a, ha, h1, h2⟩ := hh k u hu
  exact ⟨a, (conc_rn h u (inns_get hc hu)).trans ha, h1, h2⟩
theorem OwnOk.rn (h : ∀ b, p b = true → S (ρ b) = R b) {i : BI} {b : Blk} {w : World} (hc : b.inn p = true) : OwnOk S i (b.rn ρ) w ↔ OwnOk R i b w := by
 cases b with
 | cells l =>
  have e := @Holds.rn R S p ρ h i.shift l
  constructor
  ·rintro ⟨arr, el, lo, hi, h1, h2, h3, h4, h5⟩
   exact ⟨arr, el, lo, hi, h1, (e hc).1 h2, h3, by rw [rns_length] at h4; exact h4, h5⟩
  ·rintro ⟨arr, el, lo, hi, h1, h2, h3, h4, h5⟩
   exact ⟨arr, el, lo, hi, h1, (e hc).2 h2, h3, by rw [rns_length]; exact h4, h5⟩
 | map l =>
  constructor
  ·rintro ⟨es, clock, h1, h2⟩
   exact ⟨es, clock, h1, (MapHolds.rn h hc).1 h2⟩
  ·rintro ⟨es, clock, h1, h2⟩
   exact ⟨es, clock, h1, (MapHolds.rn h hc).2 h2⟩
 | siter s q => exact Iff.rfl
 | unit t => exact Iff.rfl
end
structure Few where
 n0 : Nat
 args : List V
 bl0 : List (Nat × Blk)
 v : V
 n1 : Nat
 bl1 : List (Nat × Blk)
def domB (l : List (Nat × Blk)) (b : Nat) : Bool := match lookF l b with
 | some _ => true
 | none => false
def allIds (l : List (Nat × Blk)) (q : Nat → Bool) : Bool := l.all fun x => q x.1
def allBl (l : List (Nat × Blk)) (q : Nat → Bool) : Bool := l.all fun x => x.2.inn q
def Few.right (ng : Nat) (F : List V → H → Ans) (e : Few) : Bool := match F e.args ⟨e.n0, e.bl0⟩ with
 | some (v, σ) => V.beq v e.v && (inBl e.bl1 σ.bl && (Nat.beq σ.next e.n1 && (Nat.ble e.n0 e.n1 && (Nat.ble ng e.n0 && (allIds e.bl0 (fun b => Nat.ble ng b && Nat.blt b e.n0) && (allBl e.bl0 (domB e.bl0) && (inns (domB e.bl0) e.args &&
   (allIds e.bl1 (fun b => Nat.ble e.n0 b || domB e.bl0 b) && (allBl e.bl1 (domB e.bl1) && V.inn (domB e.bl1) e.v)))))))))
 | none => false
def Few.to (e : Few) (ρ : Nat → Nat) (σ : H) (id : Nat) : Nat := if id < e.n0 then ρ id else id - e.n0 + σ.next
def rnBl (ρ : Nat → Nat) (l : List (Nat × Blk)) : List (Nat × Blk) := l.map fun x => (ρ x.1, x.2.rn ρ)
def Few.old (e : Few) (ρ : Nat → Nat) (id : Nat) : Bool := e.bl0.any fun x => Nat.beq (ρ x.1) id
def Few.ans (e : Few) (ρ : Nat → Nat) (σ : H) : V × H := (e.v.rn (e.to ρ σ), ⟨σ.next + (e.n1 - e.n0), rnBl (e.to ρ σ) e.bl1 ++ σ.bl.filter fun x => !e.old ρ x.1⟩)
structure Few.Fits (e : Few) (ρ : Nat → Nat) (args : List V) (σ : H) : Prop where
 args : args = rns ρ e.args
 bl : ∀ id b, look e.bl0 id = some b → look σ.bl (ρ id) = some (b.rn ρ)
 inj : ∀ id id', domB e.bl0 id = true → domB e.bl0 id' = true → ρ id = ρ id' → id = id'
theorem domB_iff {l : List (Nat × Blk)} {b : Nat} : domB l b = true ↔ ∃ c, look l b = some c := by
 unfold domB; rw [lookF_eq]
 cases look l b <;> simp
theorem allIds_look {l : List (Nat × Blk)} {q : Nat → Bool} (h : allIds l q = true) {id : Nat} {b : Blk} (hb : look l id = some b) : q id = true := by
 have := List.all_eq_true.1 h (id, b) (look_mem hb)
 exact this
theorem allBl_look {l : List (Nat × Blk)} {q : Nat → Bool} (h : allBl l q = true) {id : Nat} {b : Blk} (hb : look l id = some b) : b.inn q = true := by
 have := List.all_eq_true.1 h (id, b) (look_mem hb)
 exact this
theorem look_rnBl {ρ : Nat → Nat} : ∀ {l : List (Nat × Blk)} {id : Nat} {b : Blk}, look (rnBl ρ l) id = some b → ∃ k c, (k, c) ∈ l ∧ id = ρ k ∧ b = c.rn ρ
 | [], id, b, h => by cases h
 | (k, c) :: l, id, b, h => by
  simp only [rnBl, List.map_cons, look] at h
  split at h
  ·rename_i he
   have he := Nat.eq_of_beq_eq_true he
   simp only [Option.some.injEq] at h
   exact ⟨k, c, List.mem_cons_self, he.symm, h.symm⟩
  ·obtain ⟨k', c', h1, h2, h3⟩ := look_rnBl (l := l) h
   exact ⟨k', c', List.mem_cons_of_mem _ h1, h2, h3⟩
theorem look_filter {q : Nat → Bool} : ∀ (l : List (Nat × Blk)) (id : Nat), look (l.filter fun x => q x.1) id = if q id = true then look l id else none
 | [], id => by simp [look]
 | (k, c) :: l, id => by
  by_cases hq : q k = true
  ·rw [List.filter_cons_of_pos (by exact hq)]
   simp only [look, look_filter l id]
   by_cases hk : Nat.beq k id = true
   ·have := Nat.eq_of_beq_eq_true hk; subst this
    simp [hq]
   ·simp [hk]
  ·rw [List.filter_cons_of_neg (by exact hq), look_filter l id]
   simp only [look]
   by_cases hk : Nat.beq k id = true
   ·have := Nat.eq_of_beq_eq_true hk; subst this
    simp [hq]
   ·simp [hk]
theorem old_iff {e : Few} {ρ : Nat → Nat} {id : Nat} : e.old ρ id = true ↔ ∃ k c, (k, c) ∈ e.bl0 ∧ ρ k = id := by
 unfold Few.old
 rw [List.any_eq_true]
 constructor
 ·rintro ⟨⟨k, c⟩, h1, h2⟩; exact ⟨k, c, h1, Nat.eq_of_beq_eq_true h2⟩
 ·rintro ⟨k, c, h1, h2⟩; exact ⟨(k, c), h1, by subst h2; exact Nat.beq_refl _⟩
theorem dom_of_mem : ∀ {l : List (Nat × Blk)} {k : Nat} {c : Blk}, (k, c) ∈ l → ∃ d, look l k = some d
 | (j, d) :: l, k, c, h => by
  simp only [look]
  by_cases hk : Nat.beq j k = true
  ·exact ⟨d, by simp [hk]⟩
  ·simp only [hk]
   rcases List.mem_cons.1 h with h | h
   ·cases h; exact (hk (Nat.beq_refl _)).elim
   ·simpa using dom_of_mem h
theorem loc_ok {P : Program} {G : Nat → Bool} {f : FuncId} {F : List V → H → Ans} (hS : SoundFn P [] G f F) {ng : Nat} (hG : ∀ g, G g = true → g < ng) {e : Few} (h : e.right ng F = true)
  {C : Cx} (hGC : C.G = G) {R : Ren} {σ : H} {w : World} {args : List V} {xs : List Value} {ρ : Nat → Nat} (hm : e.Fits ρ args σ) (hrel : Rel C R σ w) (hxs : concs R args = some xs) :
  callOk P f = true ∧ Calls P f xs.toArray w fun en w' => ∃ R' x, Ext σ.next R R' ∧ σ.next ≤ (e.ans ρ σ).2.next ∧ Rel C R' (e.ans ρ σ).2 w' ∧ conc R' (e.ans ρ σ).1 = some x ∧ en = .returned x := by
 unfold Few.right at h
 cases hr : F e.args ⟨e.n0, e.bl0⟩ with
 | none => rw [hr] at h; cases h
 | some q =>
  obtain ⟨v, σ1⟩ := q
  rw [hr] at h
  simp only [Bool.and_eq_true, Nat.ble_eq] at h
  obtain ⟨hv, hin, hnx, hn01, hng, hi0, hb0, ha0, hi1, hb1, hv1⟩ := h
  have hv := beq_ok _ _ hv
  subst hv
  have hin := inBl_ok hin
  have hnx := Nat.eq_of_beq_eq_true hnx
  let R0 : Ren := fun id => match domB e.bl0 id with
   | true => R (ρ id)
   | false => if id < ng then some ⟨id, 0, 0⟩ else none
  have hR0 : ∀ b, domB e.bl0 b = true → R (ρ b) = R0 b := fun b hb => by
   show R (ρ b) = (match domB e.bl0 b with | true => R (ρ b) | false => _)
   rw [hb]
  have hlt0 : ∀ {id b}, look e.bl0 id = some b → ng ≤ id ∧ id < e.n0 := fun hb => by
   have := allIds_look hi0 hb
   simpa [Nat.blt_eq] using this
  have hxs0 : concs R0 e.args = some xs := by
   rw [hm.args, concs_rn hR0 _ ha0] at hxs; exact hxs
  have own0 : ∀ id b, look e.bl0 id = some b → ∃ i, R (ρ id) = some i ∧ R0 id = some i ∧ C.O i.blk ∧ OwnOk R0 i b w := fun id b hb => by
   obtain ⟨i, hi, hO, hok⟩ := hrel.own _ _ (hm.bl id b hb)
   exact ⟨i, hi, (hR0 id (domB_iff.2 ⟨_, hb⟩)).symm.trans hi, hO, (OwnOk.rn hR0 (allBl_look hb0 hb)).1 hok⟩
  let O0 : Nat → Prop := fun blk => (∃ id b i, look e.bl0 id = some b ∧ R (ρ id) = some i ∧ i.blk = blk) ∨ w.heap.size ≤ blk
  have hrel0 : Rel ⟨O0, w, [], G⟩ R0 ⟨e.n0, e.bl0⟩ w := by
   refine ⟨?_, ?_, ?_, fun id b hb => by simp [look] at hb, ?_, fun _ _ => rfl, Nat.le_refl _, fun blk hb => .inr hb, rfl, rfl, rfl⟩
   ·intro id hid
    have hid' : e.n0 ≤ id := hid
    have hd : domB e.bl0 id = false := by
     cases hc : domB e.bl0 id with
     | false => rfl
     | true =>
      obtain ⟨b, hb⟩ := domB_iff.1 hc
      have := (hlt0 hb).2; omega
    show (match domB e.bl0 id with | true => R (ρ id) | false => _) = none
    rw [hd]
    exact if_neg (by omega)
   ·intro id b hb
    obtain ⟨i, hi, hi0', _, hok⟩ := own0 id b hb
    exact ⟨i, hi0', .inl ⟨id, b, i, hb, hi, rfl⟩, hok⟩
   ·intro id id' b b' i i' hb hb' hi hi' hbl
    obtain ⟨j, hj, hj0, _, _⟩ := own0 id b hb
    obtain ⟨j', hj', hj0', _, _⟩ := own0 id' b' hb'
    rw [hj0] at hi; cases hi
    rw [hj0'] at hi'; cases hi'
    exact hm.inj id id' (domB_iff.2 ⟨_, hb⟩) (domB_iff.2 ⟨_, hb'⟩) (hrel.inj _ _ _ _ _ _ (hm.bl _ _ hb) (hm.bl _ _ hb') hj hj' hbl)
   ·intro g hg
    have hgn := hG g hg
    refine ⟨⟨g, 0, 0⟩, ?_, rfl, rfl⟩
    have hd : domB e.bl0 g = false := by
     cases hc : domB e.bl0 g with
     | false => rfl
     | true =>
      obtain ⟨b, hb⟩ := domB_iff.1 hc
      have := (hlt0 hb).1; omega
    show (match domB e.bl0 g with | true => R (ρ g) | false => _) = _
    rw [hd]
    exact if_pos hgn
  obtain ⟨hok, hc⟩ := hS ⟨O0, w, [], G⟩ rfl rfl R0 ⟨e.n0, e.bl0⟩ w e.args xs _ σ1 hr hrel0 hxs0
  refine ⟨hok, hc.mono ?_⟩
  rintro en w' ⟨R1, x, hE1, _, h3, h4, rfl⟩
  have hE1 : ∀ id, id < e.n0 → R1 id = R0 id := hE1
  have keep : ∀ blk, ¬ O0 blk → w'.heap[blk]? = w.heap[blk]? := fun blk hb => h3.fr blk hb
  let R' : Ren := fun id => if id < σ.next then R id else R1 (id - σ.next + e.n0)
  have hext : Ext σ.next R R' := fun id hid => by show (if id < σ.next then _ else _) = _; rw [if_pos hid]
  have hle : Le R R' := hext.le hrel.fresh
  have hto : ∀ b, domB e.bl1 b = true → R' (e.to ρ σ b) = R1 b := fun b hb => by
   obtain ⟨c, hc1⟩ := domB_iff.1 hb
   have hid := allIds_look hi1 hc1
   unfold Few.to
   by_cases hl : b < e.n0
   ·rw [if_pos hl]
    have hd : domB e.bl0 b = true := by
     simp only [Bool.or_eq_true, Nat.ble_eq] at hid
     rcases hid with h | h
     ·omega
     ·exact h
    obtain ⟨c0, hc0⟩ := domB_iff.1 hd
    have hlt := hrel.next_of_own (hm.bl b c0 hc0)
    rw [hext _ hlt, hE1 b hl, hR0 b hd]
   ·rw [if_neg hl]
    show (if b - e.n0 + σ.next < σ.next then _ else R1 (b - e.n0 + σ.next - σ.next + e.n0)) = _
    rw [if_neg (by omega)]
    congr 1; omega
  have hnew : ∀ {id b}, look (rnBl (e.to ρ σ) e.bl1) id = some b → ∃ k c i, id = e.to ρ σ k ∧ look σ1.bl k = some c ∧ R1 k = some i ∧ R' id = some i ∧ O0 i.blk ∧ C.O i.blk ∧ OwnOk R' i b w' := fun {id b} hb => by
   obtain ⟨k, c, hk, rfl, rfl⟩ := look_rnBl hb
   have hl1 := hin (k, c) hk
   obtain ⟨d, hd⟩ := dom_of_mem hk
   have hdb : domB e.bl1 k = true := domB_iff.2 ⟨_, hd⟩
   obtain ⟨i, hi, hO, hok'⟩ := h3.own k c hl1
   have hcin : c.inn (domB e.bl1) = true := List.all_eq_true.1 hb1 (k, c) hk
   refine ⟨k, c, i, rfl, hl1, hi, (hto k hdb).trans hi, hO, ?_, (OwnOk.rn hto hcin).2 hok'⟩
   rcases hO with ⟨id', b', i', hb', hi', heq⟩ | hO
   ·obtain ⟨j, hj, _, hOj, _⟩ := own0 id' b' hb'
    rw [hj] at hi'; cases hi'
    rw [← heq]; exact hOj
   ·exact hrel.new _ (Nat.le_trans hrel.size hO)
  have hrest : ∀ {id b}, look (σ.bl.filter fun x => !e.old ρ x.1) id = some b → id < σ.next ∧ look σ.bl id = some b ∧ e.old ρ id = false := fun {id b} hb => by
   rw [look_filter (q := fun k => !e.old ρ k)] at hb
   split at hb
   ·rename_i hq
    exact ⟨hrel.next_of_own hb, hb, by simpa using hq⟩
   ·cases hb
  have hkeep : ∀ {id b i}, look σ.bl id = some b → e.old ρ id = false → R id = some i → ¬ O0 i.blk := fun {id b i} hb ho hi hO => by
   obtain ⟨j, hj, _, hok'⟩ := hrel.own id b hb
   rw [hi] at hj; cases hj
   rcases hO with ⟨id', b', i', hb', hi', heq⟩ | hO
   ·have := hrel.inj _ _ _ _ _ _ hb (hm.bl id' b' hb') hi hi' heq.symm
    have : e.old ρ id = true := old_iff.2 ⟨id', b', look_mem hb', this.symm⟩
    rw [this] at ho; cases ho
   ·have := hok'.lt; omega
  have hsplit : ∀ {id b}, look (rnBl (e.to ρ σ) e.bl1 ++ σ.bl.filter fun x => !e.old ρ x.1) id = some b → look (rnBl (e.to ρ σ) e.bl1) id = some b ∨ (id < σ.next ∧ look σ.bl id = some b ∧ e.old ρ id = false) := fun {id b} hb => by
   rw [look_app] at hb
   cases hs : look (rnBl (e.to ρ σ) e.bl1) id with
   | some c => rw [hs] at hb; exact .inl hb
   | none => rw [hs] at hb; exact .inr (hrest hb)
  refine ⟨R', x, hext, Nat.le_add_right _ _, ⟨?_, ?_, ?_, ?_, ?_, ?_, Nat.le_trans hrel.size h3.size, hrel.new, h3.os.trans hrel.os, h3.tape.trans hrel.tape, h3.output.trans hrel.output⟩, (conc_rn hto _ hv1).trans h4, rfl⟩
  ·intro id hid
   have hid' : σ.next + (e.n1 - e.n0) ≤ id := hid
   show (if id < σ.next then _ else R1 (id - σ.next + e.n0)) = none
   rw [if_neg (by omega)]
   exact h3.fresh _ (by rw [hnx]; omega)
  ·intro id b hb
   rcases hsplit hb with hb | ⟨hl, hb, ho⟩
   ·obtain ⟨k, c, i, _, _, _, hi, _, hO, hok'⟩ := hnew hb
    exact ⟨i, hi, hO, hok'⟩
   ·obtain ⟨i, hi, hO, hok'⟩ := hrel.own id b hb
    exact ⟨i, hle _ _ hi, hO, hok'.mono hle (keep _ (hkeep hb ho hi))⟩
  ·intro id id' b b' i i' hb hb' hi hi' hbl
   have olds : ∀ {id b i}, look σ.bl id = some b → R' id = some i → R id = some i := fun {id b i} hb hi => by
    obtain ⟨j, hj, _, _⟩ := hrel.own id b hb
    have := hle _ _ hj
    rw [hi] at this; cases this
    exact hj
   rcases hsplit hb with hb | ⟨hl, hb, ho⟩ <;> rcases hsplit hb' with hb' | ⟨hl', hb', ho'⟩
   ·obtain ⟨k, c, j, h1, h5, h6, h7, _⟩ := hnew hb
    obtain ⟨k', c', j', h1', h5', h6', h7', _⟩ := hnew hb'
    rw [h7] at hi; cases hi
    rw [h7'] at hi'; cases hi'
    have := h3.inj k k' c c' _ _ h5 h5' h6 h6' hbl
    rw [h1, h1', this]
   ·obtain ⟨k, c, j, h1, h5, h6, h7, h8, _⟩ := hnew hb
    rw [h7] at hi; cases hi
    have hR := olds hb' hi'
    exact (hkeep hb' ho' hR (hbl ▸ h8)).elim
   ·obtain ⟨k, c, j, h1, h5, h6, h7, h8, _⟩ := hnew hb'
    rw [h7] at hi'; cases hi'
    have hR := olds hb hi
    exact (hkeep hb ho hR (hbl ▸ h8)).elim
   ·exact hrel.inj id id' b b' i i' hb hb' (olds hb hi) (olds hb' hi') hbl
  ·intro id b hb
   obtain ⟨i, hi, hO, hok'⟩ := hrel.ext id b hb
   refine ⟨i, hle _ _ hi, hO, hok'.mono hle (keep _ ?_)⟩
   rintro (⟨id', b', i', hb', hi', heq⟩ | hn)
   ·obtain ⟨j, hj, _, hOj, _⟩ := own0 id' b' hb'
    rw [hj] at hi'; cases hi'
    exact hO (heq ▸ hOj)
   ·have := hok'.lt; omega
  ·intro g hg
   obtain ⟨i, hi, hb⟩ := hrel.glob g hg
   exact ⟨i, hle _ _ hi, hb⟩
  ·intro blk hn
   rw [← hrel.fr blk hn]
   refine keep blk ?_
   rintro (⟨id', b', i', hb', hi', heq⟩ | hn')
   ·obtain ⟨j, hj, _, hOj, _⟩ := own0 id' b' hb'
    rw [hj] at hi'; cases hi'
    exact hn (heq ▸ hOj)
   ·exact hn (hrel.new _ (Nat.le_trans hrel.size hn'))
def locF (l : List Few) (F : List V → H → Ans) : List V → H → Ans := fun args σ => by
 classical
 exact if h : ∃ q : Few × (Nat → Nat), q.1 ∈ l ∧ q.1.Fits q.2 args σ then some ((Classical.choose h).1.ans (Classical.choose h).2 σ) else F args σ
theorem locF_hit {l : List Few} {F : List V → H → Ans} {args : List V} {σ : H} {e : Few} {ρ : Nat → Nat} (he : e ∈ l) (hm : e.Fits ρ args σ) :
  ∃ e' ρ', e' ∈ l ∧ e'.Fits ρ' args σ ∧ locF l F args σ = some (e'.ans ρ' σ) := by
 have h : ∃ q : Few × (Nat → Nat), q.1 ∈ l ∧ q.1.Fits q.2 args σ := ⟨(e, ρ), he, hm⟩
 refine ⟨(Classical.choose h).1, (Classical.choose h).2, (Classical.choose_spec h).1, (Classical.choose_spec h).2, ?_⟩
 unfold locF
 exact dif_pos h
theorem locF_ok {P : Program} {G : Nat → Bool} {f : FuncId} {F F' : List V → H → Ans} {E : List (Nat × Blk)} (hF : SoundFn P E G f F) (hF' : SoundFn P [] G f F') {ng : Nat} (hG : ∀ g, G g = true → g < ng) {l : List Few} (hl : ∀ e ∈ l, e.right ng F' = true) : SoundFn P E G f (locF l F) := by
 intro C hE hGC R σ w args xs v σ' hr hrel hxs
 unfold locF at hr
 split at hr
 ·rename_i h
  simp only [Option.some.injEq] at hr
  have := loc_ok hF' hG (hl _ (Classical.choose_spec h).1) hGC (Classical.choose_spec h).2 hrel hxs
  rw [hr] at this
  exact this
 ·exact hF C hE hGC R σ w args xs v σ' hr hrel hxs
end
noncomputable section
def Has (l : List (Nat × Blk)) (ρ : Nat → Nat) (σ : H) : Prop := ∀ id b, look l id = some b → lookF σ.bl (ρ id) = some (b.rn ρ)
def Inj (l : List (Nat × Blk)) (ρ : Nat → Nat) : Prop := ∀ id id', domB l id = true → domB l id' = true → ρ id = ρ id' → id = id'
theorem fits_of {e : Few} {ρ : Nat → Nat} {args : List V} {σ : H} (ha : args = rns ρ e.args) (hb : Has e.bl0 ρ σ) (hi : Inj e.bl0 ρ) : e.Fits ρ args σ :=
 ⟨ha, fun id b h => by rw [← lookF_eq]; exact hb id b h, hi⟩
def Few.shape (e : Few) : Bool := allIds e.bl0 (fun b => Nat.blt b e.n0) && (allIds e.bl1 (fun b => (Nat.ble e.n0 b || domB e.bl0 b) && Nat.blt b e.n1) && Nat.ble e.n0 e.n1)
section
variable {e : Few} {ρ : Nat → Nat} {args : List V} {σ : H}
theorem Few.shape0 (h : e.shape = true) {id : Nat} (hd : domB e.bl0 id = true) : id < e.n0 := by
 unfold Few.shape at h
 simp only [Bool.and_eq_true] at h
 obtain ⟨c, hc⟩ := domB_iff.1 hd
 simpa [Nat.blt_eq] using allIds_look h.1 hc
theorem Few.shape1 (h : e.shape = true) {id : Nat} (hd : domB e.bl1 id = true) : id < e.n1 ∧ (e.n0 ≤ id ∨ domB e.bl0 id = true) := by
 unfold Few.shape at h
 simp only [Bool.and_eq_true] at h
 obtain ⟨c, hc⟩ := domB_iff.1 hd
 have := allIds_look h.2.1 hc
 simp only [Bool.and_eq_true, Bool.or_eq_true, Nat.ble_eq, Nat.blt_eq] at this
 exact ⟨this.2, this.1⟩
theorem Few.shapeN (h : e.shape = true) : e.n0 ≤ e.n1 := by
 unfold Few.shape at h
 simp only [Bool.and_eq_true, Nat.ble_eq] at h
 exact h.2.2
theorem Few.Fits.lt (hm : e.Fits ρ args σ) (ht : Tidy σ) {id : Nat} (hd : domB e.bl0 id = true) : ρ id < σ.next := by
 obtain ⟨c, hc⟩ := domB_iff.1 hd
 have h := hm.bl id c hc
 rcases Nat.lt_or_ge (ρ id) σ.next with hl | hl
 ·exact hl
 ·have := ht _ hl; rw [lookF_eq, h] at this; cases this
theorem Few.to_inj (hs : e.shape = true) (hm : e.Fits ρ args σ) (ht : Tidy σ) : Inj e.bl1 (e.to ρ σ) := by
 intro id id' hd hd' h
 have h1 := (Few.shape1 hs hd).2
 have h2 := (Few.shape1 hs hd').2
 unfold Few.to at h
 by_cases ha : id < e.n0
 ·have hda : domB e.bl0 id = true := by rcases h1 with h1 | h1; omega; exact h1
  by_cases hb : id' < e.n0
  ·have hdb : domB e.bl0 id' = true := by rcases h2 with h2 | h2; omega; exact h2
   rw [if_pos ha, if_pos hb] at h
   exact hm.inj _ _ hda hdb h
  ·rw [if_pos ha, if_neg hb] at h
   have := hm.lt ht hda; omega
 ·by_cases hb : id' < e.n0
  ·have hdb : domB e.bl0 id' = true := by rcases h2 with h2 | h2; omega; exact h2
   rw [if_neg ha, if_pos hb] at h
   have := hm.lt ht hdb; omega
  ·rw [if_neg ha, if_neg hb] at h; omega
theorem look_rn {l : List (Nat × Blk)} {τ : Nat → Nat} (hi : ∀ id id', domB l id = true → domB l id' = true → τ id = τ id' → id = id') : ∀ {m : List (Nat × Blk)} {id : Nat} {b : Blk}, (∀ x ∈ m, domB l x.1 = true) → look m id = some b → look (rnBl τ m) (τ id) = some (b.rn τ)
 | [], id, b, _, h => by cases h
 | (k, c) :: m, id, b, hm, h => by
  simp only [look] at h
  simp only [rnBl, List.map_cons, look]
  by_cases hk : Nat.beq k id = true
  ·have := Nat.eq_of_beq_eq_true hk; subst this
   rw [if_pos hk] at h
   cases h
   rw [if_pos (Nat.beq_refl _)]
  ·rw [if_neg hk] at h
   have hkd : domB l k = true := hm (k, c) List.mem_cons_self
   have hid : domB l id = true := hm (id, b) (List.mem_cons_of_mem _ (look_mem h))
   rw [if_neg (fun hh => hk (by have := hi k id hkd hid (Nat.eq_of_beq_eq_true hh); subst this; exact Nat.beq_refl _))]
   exact look_rn hi (fun x hx => hm x (List.mem_cons_of_mem _ hx)) h
theorem Few.has (hs : e.shape = true) (hm : e.Fits ρ args σ) (ht : Tidy σ) : Has e.bl1 (e.to ρ σ) (e.ans ρ σ).2 := by
 intro id b hb
 show lookF (rnBl (e.to ρ σ) e.bl1 ++ σ.bl.filter fun x => !e.old ρ x.1) _ = _
 rw [lookF_eq, look_app]
 rw [look_rn (l := e.bl1) (Few.to_inj hs hm ht) (fun x hx => by
  obtain ⟨d, hd⟩ := dom_of_mem (k := x.1) (c := x.2) hx
  exact domB_iff.2 ⟨_, hd⟩) hb]
theorem Few.fr (hs : e.shape = true) (hm : e.Fits ρ args σ) (ht : Tidy σ) : Fr (fun b => e.old ρ b = true) σ (e.ans ρ σ).2 := by
 have hn := Few.shapeN hs
 refine ⟨fun b hb => ?_, Nat.le_add_right _ _, fun b hb hS => ?_⟩
 ·have hb' : σ.next + (e.n1 - e.n0) ≤ b := hb
  show lookF (rnBl (e.to ρ σ) e.bl1 ++ σ.bl.filter fun x => !e.old ρ x.1) b = none
  rw [lookF_eq, look_app]
  cases hc : look (rnBl (e.to ρ σ) e.bl1) b with
  | some c =>
   exfalso
   obtain ⟨k, c', hk, he, _⟩ := look_rnBl hc
   obtain ⟨d, hd⟩ := dom_of_mem hk
   have hkd := Few.shape1 hs (domB_iff.2 ⟨d, hd⟩)
   unfold Few.to at he
   by_cases hl : k < e.n0
   ·rw [if_pos hl] at he
    have hda : domB e.bl0 k = true := by rcases hkd.2 with h | h; omega; exact h
    have := hm.lt ht hda; omega
   ·rw [if_neg hl] at he
    have := hkd.1; omega
  | none =>
   simp only []
   rw [look_filter (q := fun k => !e.old ρ k)]
   split
   ·rw [← lookF_eq]; exact ht b (by omega)
   ·rfl
 ·show lookF (rnBl (e.to ρ σ) e.bl1 ++ σ.bl.filter fun x => !e.old ρ x.1) b = _
  rw [lookF_eq, look_app]
  cases hc : look (rnBl (e.to ρ σ) e.bl1) b with
  | some c =>
   exfalso
   obtain ⟨k, c', hk, he, _⟩ := look_rnBl hc
   obtain ⟨d, hd⟩ := dom_of_mem hk
   have hkd := Few.shape1 hs (domB_iff.2 ⟨d, hd⟩)
   unfold Few.to at he
   by_cases hl : k < e.n0
   ·rw [if_pos hl] at he
    have hda : domB e.bl0 k = true := by rcases hkd.2 with h | h; omega; exact h
    obtain ⟨c0, hc0⟩ := domB_iff.1 hda
    exact hS (old_iff.2 ⟨k, c0, look_mem hc0, he.symm⟩)
   ·rw [if_neg hl] at he; omega
  | none =>
   simp only []
   rw [look_filter (q := fun k => !e.old ρ k), if_pos (by
    cases ho : e.old ρ b with
    | true => exact (hS ho).elim
    | false => rfl), lookF_eq]
theorem Few.tidy (hs : e.shape = true) (hm : e.Fits ρ args σ) (ht : Tidy σ) : Tidy (e.ans ρ σ).2 := (Few.fr hs hm ht).tidy
theorem Has.fr {l : List (Nat × Blk)} {S : Nat → Prop} {σ σ' : H} (h : Has l ρ σ) (f : Fr S σ σ') (ht : Tidy σ) (hS : ∀ id, domB l id = true → ¬ S (ρ id)) : Has l ρ σ' := fun id b hb => by
 have h1 := h id b hb
 have hlt : ρ id < σ.next := by
  rcases Nat.lt_or_ge (ρ id) σ.next with hl | hl
  ·exact hl
  ·have := ht _ hl; rw [h1] at this; cases this
 rw [f.same _ hlt (hS id (domB_iff.2 ⟨_, hb⟩))]
 exact h1
theorem Has.lt {l : List (Nat × Blk)} {σ : H} (h : Has l ρ σ) (ht : Tidy σ) {id : Nat} (hd : domB l id = true) : ρ id < σ.next := by
 obtain ⟨c, hc⟩ := domB_iff.1 hd
 have h1 := h id c hc
 rcases Nat.lt_or_ge (ρ id) σ.next with hl | hl
 ·exact hl
 ·have := ht _ hl; rw [h1] at this; cases this
end
end
noncomputable section
section
variable {p : Nat → Bool} {ρ τ : Nat → Nat}
mutual
theorem rn_congr (h : ∀ b, p b = true → ρ b = τ b) : ∀ v : V, V.inn p v = true → V.rn ρ v = V.rn τ v
 | .dead, hc => by simp [V.inn] at hc
 | .ptr b o, hc => by simp only [V.inn] at hc; simp only [V.rn, h b hc]
 | .sl b o n c, hc => by simp only [V.inn] at hc; simp only [V.rn, h b hc]
 | .sle b o k e, hc => by simp only [V.inn] at hc; simp only [V.rn, h b hc]
 | .mp b, hc => by simp only [V.inn] at hc; simp only [V.rn, h b hc]
 | .bool _, _ => rfl
 | .int _ _, _ => rfl
 | .str _, _ => rfl
 | .nilp, _ => rfl
 | .nils, _ => rfl
 | .nilm, _ => rfl
 | .nilf, _ => rfl
 | .nili, _ => rfl
 | .fn f a c, hc => by
  simp only [V.inn, Bool.and_eq_true] at hc
  simp only [V.rn, rns_congr h a hc.1, rns_congr h c hc.2]
 | .ifc t v, hc => by
  simp only [V.inn] at hc
  simp only [V.rn, rn_congr h v hc]
 | .agg l, hc => by
  simp only [V.inn] at hc
  simp only [V.rn, rns_congr h l hc]
 | .tup l, hc => by
  simp only [V.inn] at hc
  simp only [V.rn, rns_congr h l hc]
theorem rns_congr (h : ∀ b, p b = true → ρ b = τ b) : ∀ l : List V, inns p l = true → rns ρ l = rns τ l
 | [], _ => rfl
 | v :: l, hc => by
  simp only [inns, Bool.and_eq_true] at hc
  simp only [rns, rn_congr h v hc.1, rns_congr h l hc.2]
end
theorem rnp_congr (h : ∀ b, p b = true → ρ b = τ b) : ∀ l : List (V × V), innp p l = true → rnp ρ l = rnp τ l
 | [], _ => rfl
 | q :: l, hc => by
  simp only [innp, Bool.and_eq_true] at hc
  simp only [rnp, rn_congr h q.1 hc.1.1, rn_congr h q.2 hc.1.2, rnp_congr h l hc.2]
theorem Blk.rn_congr (h : ∀ b, p b = true → ρ b = τ b) {b : Blk} (hc : b.inn p = true) : b.rn ρ = b.rn τ := by
 cases b with
 | cells l => exact congrArg Blk.cells (rns_congr h l hc)
 | map l => exact congrArg Blk.map (rnp_congr h l hc)
 | siter s q => rfl
 | unit t => rfl
end
def Few.still (e : Few) : Bool := inBl e.bl0 e.bl1 && (allBl e.bl0 (domB e.bl0) && inBl e.bl0 e.bl0)
section
variable {e : Few} {ρ : Nat → Nat} {args : List V} {σ : H}
theorem Few.fr0 (hs : e.shape = true) (hw : e.still = true) (hm : e.Fits ρ args σ) (ht : Tidy σ) : Fr Nowhere σ (e.ans ρ σ).2 := by
 have f := Few.fr hs hm ht
 have hh := Few.has hs hm ht
 unfold Few.still at hw
 simp only [Bool.and_eq_true] at hw
 obtain ⟨h1, h2, h3⟩ := hw
 refine ⟨f.tidy, f.le, fun b hb _ => ?_⟩
 by_cases ho : e.old ρ b = true
 ·obtain ⟨k, c, hk, rfl⟩ := old_iff.1 ho
  have l0 := inBl_ok h3 (k, c) hk
  have l1 := inBl_ok h1 (k, c) hk
  have hd : domB e.bl0 k = true := domB_iff.2 ⟨_, l0⟩
  have hlt := Few.shape0 hs hd
  have a1 := hh k c l1
  have et : e.to ρ σ k = ρ k := by unfold Few.to; rw [if_pos hlt]
  rw [et] at a1
  rw [a1, lookF_eq, hm.bl k c l0]
  congr 1
  refine (Blk.rn_congr (p := domB e.bl0) (fun b hb => ?_) (allBl_look h2 l0)).symm
  unfold Few.to
  rw [if_pos (Few.shape0 hs hb)]
 ·exact f.same b hb ho
end
end
noncomputable section
section
variable {E : List (Nat × Blk)} {σ σ' : H} {b b' : Nat} {l m : List V}
theorem ldK_is {κ : V → Ans} {o : Nat} (h : Atc σ b l) : ldK E σ b o κ = nthK l o κ := rdK_at h
theorem ldnK_is {κ : List V → Ans} {o n : Nat} (h : Atc σ b l) : ldnK E σ b o n κ = subK l o n κ := rdK_at h
theorem nthK_zero {a : V} {κ : V → Ans} : nthK (a :: l) 0 κ = κ a := rfl
theorem nthK_succ {a : V} {n : Nat} {κ : V → Ans} : nthK (a :: l) (n + 1) κ = nthK l n κ := rfl
theorem subK_2 {a b : V} {κ : List V → Ans} : subK [a, b] 0 2 κ = κ [a, b] := rfl
theorem subK_4 {a b c d : V} {κ : List V → Ans} : subK [a, b, c, d] 0 4 κ = κ [a, b, c, d] := rfl
theorem subK_5 {a b c d e : V} {κ : List V → Ans} : subK [a, b, c, d, e] 0 4 κ = κ [a, b, c, d] := rfl
theorem subK_6 {a b c d e f : V} {κ : List V → Ans} : subK [a, b, c, d, e, f] 0 6 κ = κ [a, b, c, d, e, f] := rfl
theorem subK_13 {a b c d e f g h i j k l m : V} {κ : List V → Ans} : subK [a, b, c, d, e, f, g, h, i, j, k, l, m] 0 13 κ = κ [a, b, c, d, e, f, g, h, i, j, k, l, m] := rfl
theorem subK_con {a b c d e f g h i j k l m : V} {κ : List V → Ans} : subK [a, b, c, d, e, f, g, h, i, j, k, l, m] 2 6 κ = κ [c, d, e, f, g, h] := rfl
theorem cells_agg (l : List V) : (V.agg l).cells = l := rfl
theorem cells_int (k : IntKind) (n : Int) : (V.int k n).cells = [.int k n] := rfl
theorem cells_ptr (b o : Nat) : (V.ptr b o).cells = [.ptr b o] := rfl
theorem allOne_cons (v : V) (l : List V) : allOne (v :: l) = (v.one && allOne l) := rfl
theorem allOne_nil : allOne [] = true := rfl
theorem one_int (k : IntKind) (n : Int) : (V.int k n).one = true := rfl
theorem one_bool (c : Bool) : (V.bool c).one = true := rfl
theorem one_str (s : BS) : (V.str s).one = true := rfl
theorem one_nils : V.nils.one = true := rfl
theorem one_sl (b o n : Nat) (c : Cap) : (V.sl b o n c).one = true := rfl
theorem one_ptr (b o : Nat) : (V.ptr b o).one = true := rfl
theorem chk_t (a : Ans) : chk true a = a := rfl
theorem rtOne_nils {a : Ans} : rtOne .nils a = a := rfl
theorem rtOne_pt {b o : Nat} {a : Ans} : rtOne (.ptr b o) a = a := rfl
theorem rtOne_of {v : V} {a : Ans} (h : v.one = true) : rtOne v a = a := by cases v <;> first | rfl | cases h
theorem slenK_nils {κ : Nat → Ans} : slenK .nils κ = κ 0 := rfl
theorem slenK_sl {b o n : Nat} {c : Cap} {κ : Nat → Ans} : slenK (.sl b o n c) κ = κ n := rfl
theorem nnK_nat {n : Nat} {κ : Nat → Ans} : nnK (Int.ofNat n) κ = κ n := rfl
theorem condK_ift {c : Bool} {a b : Ans} (h : c = true) : condK c a b = a := by rw [h]; rfl
theorem condK_iff {c : Bool} {a b : Ans} (h : c = false) : condK c a b = b := by rw [h]; rfl
theorem chk_if {c : Bool} {a : Ans} (h : c = true) : chk c a = a := by rw [h]; rfl
theorem join_or (f : Bool → H → Ans) (c d : Bool) (σ : H) : joinB f (fun k => condK c (k true σ) (k d σ)) = f (c || d) σ := by cases c <;> rfl
theorem join_and (f : Bool → H → Ans) (c d : Bool) (σ : H) : joinB f (fun k => condK c (k d σ) (k false σ)) = f (c && d) σ := by cases c <;> rfl
theorem join_id (f : Bool → H → Ans) (c : Bool) (σ : H) : joinB f (fun k => k c σ) = f c σ := rfl
def Src (σ : H) (esz n : Nat) (x : V) (m : List V) : Prop := (n = 0 ∧ x = .nils ∧ m = []) ∨ ∃ b o c L, x = .sl b o n c ∧ Atc σ b L ∧ o + n * esz ≤ L.length ∧ m = (L.drop o).take (n * esz)
def Dst (σ : H) (esz k : Nat) (v : V) (l : List V) : Prop := Sl σ esz k v l ∨ ∃ b, v = .sl b 0 k (.ex k) ∧ Atc σ b l ∧ l.length = k * esz
theorem Src.one {esz n : Nat} {x : V} (h : Src σ esz n x m) : x.one = true := by
 rcases h with ⟨_, rfl, _⟩ | ⟨_, _, _, _, rfl, _⟩ <;> rfl
theorem Src.slen {esz n : Nat} {x : V} {κ : Nat → Ans} (h : Src σ esz n x m) : slenK x κ = κ n := by
 rcases h with ⟨rfl, rfl, _⟩ | ⟨_, _, _, _, rfl, _⟩ <;> rfl
theorem Src.length {esz n : Nat} {x : V} (h : Src σ esz n x m) : m.length = n * esz := by
 rcases h with ⟨rfl, _, rfl⟩ | ⟨_, o, _, L, _, _, h, rfl⟩
 ·simp
 ·simp only [List.length_take, List.length_drop]; omega
theorem Src.srcK {esz n : Nat} {x : V} {κ : Nat → List V → Ans} (h : Src σ esz n x m) : srcK E σ esz x κ = κ n m := by
 rcases h with ⟨rfl, rfl, rfl⟩ | ⟨b, o, c, L, rfl, ha, hl, rfl⟩
 ·rfl
 ·exact srcK_ex ha hl
theorem Src.cells {esz n : Nat} {x : V} (h : Src σ esz n x m) : srcCells E σ esz x = some (n, m) := by
 rcases h with ⟨rfl, rfl, rfl⟩ | ⟨b, o, c, L, rfl, ha, hl, rfl⟩
 ·rfl
 ·show (rdN E σ b o (n * esz)).map _ = _
  unfold rdN rd
  rw [← lookF_eq, show lookF σ.bl b = some (.cells L) from ha]
  simp only []
  rw [show Nat.ble (o + n * esz) L.length = true from ble_of hl]
  rfl
theorem Src.fr {S : Nat → Prop} {esz n : Nat} {x : V} (h : Src σ esz n x m) (f : Fr S σ σ') (ht : Tidy σ) (hn : ∀ b, Names x b → ¬ S b) : Src σ' esz n x m := by
 rcases h with h | ⟨b, o, c, L, rfl, ha, hl, rfl⟩
 ·exact .inl h
 ·exact .inr ⟨b, o, c, L, rfl, f.at_ ha ht (hn b rfl), hl, rfl⟩
theorem Src.lt {esz n : Nat} {x : V} (h : Src σ esz n x m) (ht : Tidy σ) (hb : Names x b) : b < σ.next := by
 rcases h with ⟨_, rfl, _⟩ | ⟨_, _, _, _, rfl, ha, _⟩
 ·exact hb.elim
 ·cases hb; exact ha.lt ht
theorem Dst.nil (σ : H) (esz : Nat) : Dst σ esz 0 .nils [] := .inl (Sl.nil σ esz)
theorem Dst.length {esz k : Nat} {v : V} (h : Dst σ esz k v l) : l.length = k * esz := by
 rcases h with h | ⟨_, _, _, h⟩
 ·exact h.length
 ·exact h
theorem Dst.one {esz k : Nat} {v : V} (h : Dst σ esz k v l) : v.one = true := by
 rcases h with h | ⟨_, rfl, _⟩
 ·exact h.one
 ·rfl
theorem Dst.slen {esz k : Nat} {v : V} {κ : Nat → Ans} (h : Dst σ esz k v l) : slenK v κ = κ k := by
 rcases h with h | ⟨_, rfl, _⟩
 ·exact h.slen
 ·rfl
theorem Dst.lt {esz k : Nat} {v : V} (h : Dst σ esz k v l) (ht : Tidy σ) (hb : Names v b) : b < σ.next := by
 rcases h with h | ⟨_, rfl, ha, _⟩
 ·exact h.lt ht hb
 ·cases hb; exact ha.lt ht
theorem Dst.fr {S : Nat → Prop} {esz k : Nat} {v : V} (h : Dst σ esz k v l) (f : Fr S σ σ') (ht : Tidy σ) (hn : ∀ b, Names v b → ¬ S b) : Dst σ' esz k v l := by
 rcases h with h | ⟨b, rfl, ha, hl⟩
 ·exact .inl (h.fr f ht hn)
 ·exact .inr ⟨b, rfl, f.at_ ha ht (hn b rfl), hl⟩
theorem Dst.src {esz k : Nat} {v : V} (h : Dst σ esz k v l) : Src σ esz k v l := by
 rcases h with (⟨rfl, rfl, rfl⟩ | ⟨b, rfl, ha, _, hl⟩) | ⟨b, rfl, ha, hl⟩
 ·exact .inl ⟨rfl, rfl, rfl⟩
 ·exact .inr ⟨b, 0, _, l, rfl, ha, by omega, by rw [List.drop_zero, ← hl, List.take_length]⟩
 ·exact .inr ⟨b, 0, _, l, rfl, ha, by omega, by rw [List.drop_zero, ← hl, List.take_length]⟩
def Len (v : V) (n : Nat) : Prop := v.one = true ∧ ∀ κ : Nat → Ans, slenK v κ = κ n
theorem Len.nils : Len .nils 0 := ⟨rfl, fun _ => rfl⟩
theorem Len.sl {b o n : Nat} {c : Cap} : Len (.sl b o n c) n := ⟨rfl, fun _ => rfl⟩
theorem Src.len {σ : H} {esz n : Nat} {x : V} {m : List V} (h : Src σ esz n x m) : Len x n := ⟨h.one, fun _ => h.slen⟩
theorem app_none {esz bytes k : Nat} {v x : V} {κ : V → H → Ans} (h : Dst σ esz k v l) (hx : Src σ esz 0 x m) : appK E esz bytes v x σ κ = κ v σ := by
 unfold appK
 rw [hx.srcK]
 rcases h with (⟨rfl, rfl, rfl⟩ | ⟨b, rfl, ha, _, hl⟩) | ⟨b, rfl, ha, hl⟩
 ·show callK (appendV E esz bytes .nils x σ) κ = _
  unfold appendV; rw [hx.cells]; rfl
 ·rfl
 ·show callK (appendV E esz bytes (.sl b 0 k (.ex k)) x σ) κ = _
  unfold appendV; rw [hx.cells]
  simp only []
  rw [if_pos (show Nat.ble (k + 0) k = true from ble_of (Nat.le_refl _))]
  rfl
theorem app_some {esz bytes k n : Nat} {v x : V} (h : Dst σ esz k v l) (ht : Tidy σ) (hx : Src σ esz n x m) (hn : 0 < n) (ho : allOne m = true) (hg : growable (k + n) bytes = true) :
  ∃ σ', (∀ κ : V → H → Ans, appK E esz bytes v x σ κ = κ (.sl σ.next 0 (k + n) (.op esz)) σ') ∧ Atc σ' σ.next (l ++ m) ∧ σ'.next = σ.next + 1 ∧ Fr (Names v) σ σ' := by
 obtain ⟨n', rfl⟩ : ∃ q, n = q + 1 := ⟨n - 1, by omega⟩
 rcases h with (⟨rfl, rfl, rfl⟩ | ⟨b, rfl, ha, hk, hl⟩) | ⟨b, rfl, ha, hl⟩
 ·refine ⟨newB σ (.cells m), fun κ => ?_, by rw [List.nil_append]; exact Atc_newB m, rfl, Fr.new ht _⟩
  unfold appK
  rw [hx.srcK]
  show callK (appendV E esz bytes .nils x σ) κ = _
  unfold appendV; rw [hx.cells]
  simp only []
  rw [Nat.zero_add] at hg ⊢
  rw [if_neg (by omega), if_pos hg]
  rfl
 ·refine ⟨⟨σ.next + 1, (σ.next, .cells (l ++ m)) :: drop σ.bl b⟩, fun κ => ?_, ?_, rfl, ?_⟩
  ·unfold appK
   rw [hx.srcK]
   show (match lookF σ.bl b with
    | some (.cells l) => chk (Nat.beq l.length (k * esz) && Nat.beq esz esz && growable (k + (n' + 1)) bytes && allOne m) (forceD σ.bl b fun bl' => κ (.sl σ.next 0 (k + (n' + 1)) (.op esz)) ⟨σ.next + 1, (σ.next, .cells (l ++ m)) :: bl'⟩)
    | _ => none) = _
   rw [show lookF σ.bl b = some (.cells l) from ha]
   simp only []
   rw [chk_true (by rw [hg, ho, hl]; simp), forceD_eq]
  ·show lookF ((σ.next, Blk.cells (l ++ m)) :: _) _ = _
   rw [lookF_cons, if_pos rfl]
  ·refine ⟨fun k' hk' => ?_, Nat.le_succ _, fun k' hk' hn => ?_⟩
   ·have hk2 : σ.next + 1 ≤ k' := hk'
    show lookF ((σ.next, _) :: drop σ.bl b) k' = none
    rw [lookF_cons, if_neg (by simp only []; omega), lookF_drop]
    split
    ·rfl
    ·exact ht k' (by omega)
   ·show lookF ((σ.next, _) :: drop σ.bl b) k' = _
    rw [lookF_cons, if_neg (by simp only []; omega), lookF_drop, if_neg]
    intro hbk
    exact hn hbk.symm
 ·refine ⟨newB σ (.cells (l ++ m)), fun κ => ?_, Atc_newB _, rfl, Fr.new ht _⟩
  unfold appK
  rw [hx.srcK]
  show callK (appendV E esz bytes (.sl b 0 k (.ex k)) x σ) κ = _
  unfold appendV; rw [hx.cells]
  simp only []
  rw [if_neg (show ¬ Nat.ble (k + (n' + 1)) k = true from fun h => by rw [Nat.ble_eq] at h; omega), if_pos hg]
  have hr : rdN E σ b 0 (k * esz) = some l := by
   unfold rdN rd
   rw [← lookF_eq, show lookF σ.bl b = some (.cells l) from ha]
   simp only []
   rw [show Nat.ble (0 + k * esz) l.length = true from ble_of (by omega)]
   rw [List.drop_zero, ← hl, List.take_length]; rfl
  rw [hr]
  rfl
theorem app_all {esz bytes k n : Nat} {v x : V} (h : Dst σ esz k v l) (ht : Tidy σ) (hx : Src σ esz n x m) (ho : allOne m = true) (hg : growable (k + n) bytes = true) :
  ∃ u σ', (∀ κ : V → H → Ans, appK E esz bytes v x σ κ = κ u σ') ∧ Dst σ' esz (k + n) u (l ++ m) ∧ (∀ b, Names u b → Names v b ∨ σ.next ≤ b) ∧ Fr (Names v) σ σ' := by
 cases n with
 | zero =>
  have hm : m = [] := List.eq_nil_of_length_eq_zero (by rw [hx.length]; omega)
  subst hm
  exact ⟨v, σ, fun κ => app_none h hx, by rw [List.append_nil]; exact h, fun b hb => .inl hb, Fr.refl ht⟩
 | succ n =>
  obtain ⟨σ', g, a, nx, f⟩ := app_some (E := E) h ht hx (Nat.succ_pos n) ho hg
  refine ⟨_, σ', g, .inl (.inr ⟨σ.next, rfl, a, by omega, ?_⟩), fun b hb => .inr (by cases hb; exact Nat.le_refl _), f⟩
  rw [List.length_append, h.length, hx.length, ← Nat.add_mul]
theorem rP : (∀ (a : V) (l : List V) (κ : V → Ans), nthK (a :: l) 0 κ = κ a) ∧ (∀ (a : V) (l : List V) (n : Nat) (κ : V → Ans), nthK (a :: l) (n + 1) κ = nthK l n κ) ∧
  (∀ (a b : V) (κ : List V → Ans), subK [a, b] 0 2 κ = κ [a, b]) ∧ (∀ (a b c d : V) (κ : List V → Ans), subK [a, b, c, d] 0 4 κ = κ [a, b, c, d]) ∧ (∀ (a b c d e : V) (κ : List V → Ans), subK [a, b, c, d, e] 0 4 κ = κ [a, b, c, d]) ∧
  (∀ (a b c d e f : V) (κ : List V → Ans), subK [a, b, c, d, e, f] 0 6 κ = κ [a, b, c, d, e, f]) ∧ (∀ (a b c d e f g h i j k l m : V) (κ : List V → Ans), subK [a, b, c, d, e, f, g, h, i, j, k, l, m] 0 13 κ = κ [a, b, c, d, e, f, g, h, i, j, k, l, m]) ∧
  (∀ (a b c d e f g h i j k l m : V) (κ : List V → Ans), subK [a, b, c, d, e, f, g, h, i, j, k, l, m] 2 6 κ = κ [c, d, e, f, g, h]) ∧
  (∀ (k : IntKind) (n : Int) (κ : Int → Ans), rtInt k (.int k n) κ = κ n) ∧ (∀ (b : Bool) (κ : Bool → Ans), rtBool (.bool b) κ = κ b) ∧ (∀ (s : BS) (κ : BS → Ans), rtStr (.str s) κ = κ s) ∧ (∀ (b o : Nat) (κ : Nat → Nat → Ans), rtPtr (.ptr b o) κ = κ b o) ∧
  (∀ (l : List V) (κ : List V → Ans), rtAgg (.agg l) κ = κ l) ∧ (∀ (l : List V) (κ : List V → Ans), rtTup (.tup l) κ = κ l) ∧ (∀ (v : V) (l : List V) (κ : V → List V → Ans), rtCons (v :: l) κ = κ v l) ∧ (∀ a : Ans, rtNil [] a = a) ∧
  (∀ a : Ans, rtOne .nils a = a) ∧ (∀ (b o : Nat) (a : Ans), rtOne (.ptr b o) a = a) ∧ (∀ (b o n : Nat) (c : Cap) (a : Ans), rtOne (.sl b o n c) a = a) ∧ (∀ κ : Nat → Ans, slenK .nils κ = κ 0) ∧ (∀ (b o n : Nat) (c : Cap) (κ : Nat → Ans), slenK (.sl b o n c) κ = κ n) ∧
  (∀ (v : V) (σ : H) (κ : V → H → Ans), callK (some (v, σ)) κ = κ v σ) ∧ (∀ (c : Bool) (a b : Ans), c = true → condK c a b = a) ∧ (∀ (c : Bool) (a b : Ans), c = false → condK c a b = b) ∧ (∀ (c : Bool) (a : Ans), c = true → chk c a = a) ∧
  (∀ (f : Bool → H → Ans) (g : (Bool → H → Ans) → Ans), joinB f g = g f) ∧ (∀ (k : IntKind) (n : Int) (l : List V) (κ : Int → List V → Ans), xcI k (.int k n :: l) κ = κ n l) ∧ (∀ (b : Bool) (l : List V) (κ : Bool → List V → Ans), xcB (.bool b :: l) κ = κ b l) ∧ (∀ (s : BS) (l : List V) (κ : BS → List V → Ans), xcS (.str s :: l) κ = κ s l) ∧ (∀ (l : List V) (σ : H) (κ : H → Ans), nbK l σ κ = chk (allOne l) (κ (newB σ (.cells l)))) :=
 ⟨fun _ _ _ => rfl, fun _ _ _ _ => rfl, fun _ _ _ => rfl, fun _ _ _ _ _ => rfl, fun _ _ _ _ _ _ => rfl, fun _ _ _ _ _ _ _ => rfl, fun _ _ _ _ _ _ _ _ _ _ _ _ _ _ => rfl, fun _ _ _ _ _ _ _ _ _ _ _ _ _ _ => rfl,
  rtInt_int, fun _ _ => rfl, fun _ _ => rfl, fun _ _ _ => rfl, fun _ _ => rfl, fun _ _ => rfl, fun _ _ _ => rfl, fun _ => rfl, fun _ => rfl, fun _ _ _ => rfl, fun _ _ _ _ _ => rfl, fun _ => rfl, fun _ _ _ _ _ => rfl,
  fun _ _ _ => rfl, fun _ _ _ h => condK_ift h, fun _ _ _ h => condK_iff h, fun _ _ h => chk_if h, fun _ _ => rfl, fun k n l κ => rtInt_int k n fun n => κ n l, fun _ _ _ => rfl, fun _ _ _ => rfl, fun _ _ _ => rfl⟩
theorem rC : (∀ (k : IntKind) (n : Int) (l : List V) (κ : Int → List V → Ans), xcI k (.int k n :: l) κ = κ n l) ∧ (∀ (b : Bool) (l : List V) (κ : Bool → List V → Ans), xcB (.bool b :: l) κ = κ b l) ∧ (∀ (s : BS) (l : List V) (κ : BS → List V → Ans), xcS (.str s :: l) κ = κ s l) ∧ (∀ (l : List V) (σ : H) (κ : H → Ans), nbK l σ κ = chk (allOne l) (κ (newB σ (.cells l)))) :=
 ⟨fun k n l κ => rtInt_int k n fun n => κ n l, fun _ _ _ => rfl, fun _ _ _ => rfl, fun _ _ _ => rfl⟩
theorem rS : (∀ l : List V, (V.agg l).cells = l) ∧ (∀ (k : IntKind) (n : Int), (V.int k n).cells = [.int k n]) ∧ (∀ b o : Nat, (V.ptr b o).cells = [.ptr b o]) ∧ (∀ (v : V) (l : List V), allOne (v :: l) = (v.one && allOne l)) ∧ (allOne [] = true) ∧
  (∀ (k : IntKind) (n : Int), (V.int k n).one = true) ∧ (∀ c : Bool, (V.bool c).one = true) ∧ (∀ s : BS, (V.str s).one = true) ∧ (V.nils.one = true) ∧ (∀ (b o n : Nat) (c : Cap), (V.sl b o n c).one = true) ∧ (∀ b o : Nat, (V.ptr b o).one = true) ∧
  (∀ b : Bool, (b && true) = b) ∧ (∀ a b : Nat, Nat.add a b = a + b) ∧ (∀ n : Nat, 0 + n = n) ∧ ((!true) = false) ∧ ((!false) = true) :=
 ⟨fun _ => rfl, fun _ _ => rfl, fun _ _ => rfl, fun _ _ => rfl, rfl, fun _ _ => rfl, fun _ => rfl, fun _ => rfl, rfl, fun _ _ _ _ => rfl, fun _ _ => rfl, Bool.and_true, fun _ _ => rfl, Nat.zero_add, rfl, rfl⟩
theorem rQ : (∀ m n : Nat, eqF (Int.ofNat m) (Int.ofNat n) = decide (m = n)) ∧ (∀ m n : Nat, ltF (Int.ofNat m) (Int.ofNat n) = decide (m < n)) ∧ (∀ m n : Nat, leF (Int.ofNat m) (Int.ofNat n) = decide (m ≤ n)) ∧
  (∀ b : Bool, (false || b) = b) ∧ (∀ b : Bool, (true || b) = true) ∧ (∀ b : Bool, (b || false) = b) ∧ (∀ b : Bool, (b || true) = true) ∧ (∀ b : Bool, (false && b) = false) ∧ (∀ b : Bool, (true && b) = b) ∧ (∀ b : Bool, (b && false) = false) :=
 ⟨eqF_nat, ltF_nat, leF_nat, Bool.false_or, Bool.true_or, Bool.or_false, Bool.or_true, Bool.false_and, Bool.true_and, Bool.and_false⟩
end
end
open Go Go.RowKit Go.Deep
theorem law_belowE {P : Program} {G : Nat → Bool} {f : FuncId} {F : List V → H → Ans} {E : List (Nat × Blk)} (hS : SoundFn P E G f F) {ng n0 : Nat} (hG : ∀ g, G g = true → g < ng) (hn : ng ≤ n0) (l : List (Nat × BI)) (args : List V) (xs : List Value) (w : World)
  (hl : ∀ id i, look l id = some i → id < n0) (hE : ∀ id b, look E id = some b → ∃ i, argR ng l id = some i ∧ ExtOk (argR ng l) i b w) (hx : concs (argR ng l) args = some xs) (h : okB (F args ⟨n0, []⟩) = true) :
  Calls P f xs.toArray w fun e w' => e = .returned (.bool true) ∧ RowKit.Below w.heap.size w w' := by
 obtain ⟨σ, hσ⟩ := okB_some h
 obtain ⟨_, hc⟩ := hS ⟨fun blk => w.heap.size ≤ blk, w, E, G⟩ rfl rfl (argR ng l) ⟨n0, []⟩ w args xs _ σ hσ (start_relE hG hn l E w hl hE) hx
 refine hc.mono ?_
 rintro en w' ⟨R', x, _, _, h3, h4, rfl⟩
 cases h4
 exact ⟨rfl, h3.os, h3.tape, h3.output, h3.size, fun k hk => h3.fr k (Nat.not_le.2 hk)⟩
theorem addr_add (b o i : Nat) : (⟨b, o, none⟩ : Addr).add i = ⟨b, o + i, none⟩ := by
 unfold Addr.add
 split
 ·rename_i h; subst h; rfl
 ·rfl
section
variable {H : Type} {enc : TypeId × Value → H} {P : Program} {w : World} {t e : TypeId} {d : DataW H} {ps : List MemPlace} {blk off len cap : Nat}
theorem row_cells (ht : P.underlying t = some (.slice e)) (hc : P.cellsOf e = 1) (h : DataW.Trod enc P w 0 (fun _ => true) true t (.slice (some ⟨blk, off, none⟩) len cap) d ps) :
  ∃ V : Nat → Value, ∀ i, i < len → w.cell? ⟨blk, off + i, none⟩ = some (V i) ∧ ∃ n D p, DataW.trod enc P w 0 (fun _ => true) true n e [V i] = some (D, p) := by
 obtain ⟨fuel, hf⟩ := h
 rcases open_slice1 ht hc hf with ⟨h0, _⟩ | ⟨a, len', cap', m, n, V, D, Pl, hcs, _, hl, _, hm, _, hx⟩
 ·simp [Value.cells] at h0
 ·simp only [Value.cells, List.cons.injEq, Value.slice.injEq, Option.some.injEq, and_true] at hcs
  obtain ⟨rfl, rfl, rfl⟩ := hcs
  refine ⟨V, fun i hi => ?_⟩
  obtain ⟨h1, h2⟩ := hx i (by rw [hm]; simp only [if_true]; omega)
  rw [addr_add] at h1
  exact ⟨h1, _, _, _, h2⟩
theorem row_bools (ht : P.underlying t = some (.slice e)) (he : P.underlying e = some .bool) (hc : P.cellsOf e = 1) (h : DataW.Trod enc P w 0 (fun _ => true) true t (.slice (some ⟨blk, off, none⟩) len cap) d ps) :
  ∃ B : Nat → Bool, ∀ i, i < len → w.cell? ⟨blk, off + i, none⟩ = some (.bool (B i)) := by
 obtain ⟨V, hV⟩ := row_cells ht hc h
 have : ∀ i, i < len → ∃ b, V i = .bool b := fun i hi => by
  obtain ⟨_, n, D, p, h2⟩ := hV i hi
  obtain ⟨b, hb, _⟩ := DataW.trod_bool he h2
  simp only [List.cons.injEq, and_true] at hb
  exact ⟨b, hb⟩
 obtain ⟨B, hB⟩ := choose_lt this
 exact ⟨B, fun i hi => by rw [(hV i hi).1, hB i hi]⟩
theorem row_ints {k : IntKind} (ht : P.underlying t = some (.slice e)) (he : P.underlying e = some (.int k)) (hc : P.cellsOf e = 1) (h : DataW.Trod enc P w 0 (fun _ => true) true t (.slice (some ⟨blk, off, none⟩) len cap) d ps) :
  ∃ B : Nat → Int, ∀ i, i < len → w.cell? ⟨blk, off + i, none⟩ = some (.int k (B i)) ∧ (Lit.int k (B i)).wf = true := by
 obtain ⟨V, hV⟩ := row_cells ht hc h
 have : ∀ i, i < len → ∃ b, V i = .int k b ∧ (Lit.int k b).wf = true := fun i hi => by
  obtain ⟨_, n, D, p, h2⟩ := hV i hi
  cases n with
  | zero => simp [DataW.trod] at h2
  | succ n =>
   unfold DataW.trod at h2
   rw [he] at h2
   split at h2 <;> simp_all
 obtain ⟨B, hB⟩ := choose_lt this
 exact ⟨B, fun i hi => ⟨by rw [(hV i hi).1, (hB i hi).1], (hB i hi).2⟩⟩
end
theorem cell_arr {w : World} {blk off : Nat} {v : Value} (h : w.cell? ⟨blk, off, none⟩ = some v) : ∃ arr el fr, w.heap[blk]? = some (.cells arr el fr) ∧ arr[off]? = some v := by
 unfold World.cell? at h
 simp only [] at h
 split at h
 ·rename_i c el fr hh
  exact ⟨c, el, fr, hh, by simpa using h⟩
 ·cases h
theorem ext_row {R : Ren} {w : World} {blk off : Nat} {l : List V} (hne : l ≠ []) (h : ∀ k v, l[k]? = some v → ∃ a, conc R v = some a ∧ a.oneCell' = true ∧ w.cell? ⟨blk, off + k, none⟩ = some a) : ExtOk R ⟨blk, off, 0⟩ (.cells l) w := by
 cases l with
 | nil => exact (hne rfl).elim
 | cons u l =>
  obtain ⟨a, _, _, h0⟩ := h 0 u rfl
  obtain ⟨arr, el, fr, h1, _⟩ := cell_arr h0
  refine ⟨arr, el, fr, h1, fun k v hk => ?_⟩
  obtain ⟨a', h2, h3, h4⟩ := h k v hk
  obtain ⟨arr', el', fr', h5, h6⟩ := cell_arr h4
  rw [h1] at h5
  cases h5
  exact ⟨a', h2, h3, h6⟩
theorem ext_one {R : Ren} {w : World} {id : Nat} {i : BI} {b : Blk} (hR : R id = some i) (h : ExtOk R i b w) : ∀ id' b', look [(id, b)] id' = some b' → ∃ j, R id' = some j ∧ ExtOk R j b' w := by
 intro id' b' hb
 simp only [look] at hb
 split at hb
 ·rename_i he
  have := Nat.eq_of_beq_eq_true he
  subst this
  cases hb
  exact ⟨i, hR, h⟩
 ·cases hb
theorem ext_list {R : Ren} {w : World} {blk off len : Nat} {f : Nat → V} {g : Nat → Value} (hc : ∀ i, conc R (f i) = some (g i) ∧ (g i).oneCell' = true) (h : ∀ i, i < len → w.cell? ⟨blk, off + i, none⟩ = some (g i)) (h0 : len ≠ 0) : ExtOk R ⟨blk, off, 0⟩ (.cells ((List.range len).map f)) w := by
 refine ext_row (by simp [h0]) fun k v hk => ?_
 rw [List.getElem?_map, Option.map_eq_some_iff] at hk
 obtain ⟨j, hj, rfl⟩ := hk
 obtain ⟨hj1, rfl⟩ := List.getElem?_eq_some_iff.1 hj
 have hk' : k < len := by simpa using hj1
 refine ⟨g k, ?_, (hc k).2, h k hk'⟩
 simp [(hc k).1]
noncomputable section
def OldLd (E : List (Nat × Blk)) (σ : H) (n : Nat) (S : Nat → Prop) (o : AOp) (e : Env) (v : V) : Prop := V.beq v v = true ∧ ∀ (nx : Nat) (h : List (Nat × Blk)) (p : Nat → Bool), (∀ id, id < σ.next → ¬ S id → look h id = look σ.bl id) → aopL E o e ⟨nx, hideB σ.next n p h⟩ = some v
structure RegOk (E : List (Nat × Blk)) (σ : H) (n : Nat) (S : Nat → Prop) (nx : Nat) (ss : List (List (Nat × Blk))) (am : Nat) (ls : List (Nat × AOp × Env × V)) (σc : H) : Prop where
 hd : nx = σc.next ∧ ∃ r, ss = σc.bl :: r
 big : σ.next + n ≤ nx
 fr : Fr S σ σc
 old : ∀ h ∈ ss, ∀ id, id < σ.next → ¬ S id → look h id = look σ.bl id
 gap : ∀ h ∈ ss, ∀ i, i < n → am.testBit i = false → look h (σ.next + i) = none
 ld : ∀ x ∈ ls, OldLd E σ n S x.2.1 x.2.2.1 x.2.2.2
def Goes (E : List (Nat × Blk)) (D : Den) (σ : H) (n i : Nat) (S : Nat → Prop) (ops : List AOper) (pl : List DP) (s : DS) (env : Env) (σ' : H) : Prop := ∃ s', dsteps E D σ.next n i ops pl s = some s' ∧ s'.e = env ∧ RegOk E σ n S s'.nx s'.ss s'.am s'.ls σ'
section
variable {E : List (Nat × Blk)} {D : Den} {σ σc σ' : H} {n i : Nat} {S : Nat → Prop} {d : Option Nat} {o : AOp} {l : List AOper} {anc : Nat} {lk : List Nat} {pl : List DP} {e env : Env} {nx am : Nat} {ss : List (List (Nat × Blk))} {ks : List Nat} {ls : List (Nat × AOp × Env × V)}
theorem go_nil (hr : RegOk E σ n S nx ss am ls σc) : Goes E D σ n i S [] pl ⟨e, nx, ss, ks, am, ls⟩ e σc := ⟨_, dsteps_nil, rfl, hr⟩
theorem go_p (v : V) (hc : o.cls = .p) (hv : aopP o (restr lk e) = some v) (k : Goes E D σ n (i + 1) S l pl ⟨putE e d v, nx, ss, ks, am, ls⟩ env σ') : Goes E D σ n i S (⟨d, o, none⟩ :: l) (⟨anc, lk⟩ :: pl) ⟨e, nx, ss, ks, am, ls⟩ env σ' := by
 obtain ⟨s', h1, h2, h3⟩ := k
 exact ⟨s', (dp v hc hv).trans h1, h2, h3⟩
theorem go_l (v : V) (hr : RegOk E σ n S nx ss am ls σc) (hc : o.cls = .l) (hv : OldLd E σ n S o (restr lk e) v) (k : ∀ ls', RegOk E σ n S nx ss am ls' σc → Goes E D σ n (i + 1) S l pl ⟨putE e d v, nx, ss, ks, am, ls'⟩ env σ') :
  Goes E D σ n i S (⟨d, o, none⟩ :: l) (⟨anc, lk⟩ :: pl) ⟨e, nx, ss, ks, am, ls⟩ env σ' := by
 obtain ⟨⟨hn, r, rfl⟩, h2, h3, h4, h5, h6⟩ := hr
 obtain ⟨s', k1, k2, k3⟩ := k ((i, o, restr lk e, v) :: ls) ⟨⟨hn, r, rfl⟩, h2, h3, h4, h5, fun x hx => by
  rcases List.mem_cons.1 hx with rfl | hx
  ·exact hv
  ·exact h6 x hx⟩
 exact ⟨s', (dl v hc (hv.2 nx σc.bl _ (h4 _ List.mem_cons_self))).trans k1, k2, k3⟩
theorem go_a (v : V) (b : Blk) (am' : Nat) (hr : RegOk E σ n S nx ss am ls σc) (hc : o.cls = .a) (hi : i < n) (ham : am ||| 2 ^ i = am') (hv : aopA o (restr lk e) (σ.next + i) = some (v, b))
  (k : ∀ ss', RegOk E σ n S nx ss' am' ls ⟨σc.next, (σ.next + i, b) :: σc.bl⟩ → Goes E D σ n (i + 1) S l pl ⟨putE e d v, nx, ss', ks, am', ls⟩ env σ') :
  Goes E D σ n i S (⟨d, o, none⟩ :: l) (⟨anc, lk⟩ :: pl) ⟨e, nx, ss, ks, am, ls⟩ env σ' := by
 obtain ⟨⟨hn, r, rfl⟩, h2, h3, h4, h5, h6⟩ := hr
 subst ham
 suffices hr' : RegOk E σ n S nx ((σc.bl :: r).map ((σ.next + i, b) :: ·)) (am ||| 2 ^ i) ls ⟨σc.next, (σ.next + i, b) :: σc.bl⟩ by
  obtain ⟨s', k1, k2, k3⟩ := k _ hr'
  exact ⟨s', (da v b (σ.next + i) _ hc rfl rfl hv).trans k1, k2, k3⟩
 refine ⟨⟨hn, _, rfl⟩, h2, ⟨fun c hc => ?_, h3.le, fun c hc hS => ?_⟩, fun h hh id hid hS => ?_, fun h hh j hj hb => ?_, h6⟩
 ·have hc : σc.next ≤ c := hc
  show lookF ((σ.next + i, b) :: σc.bl) c = none
  rw [lookF_cons, if_neg (by simp only []; omega)]; exact h3.tidy c hc
 ·show lookF ((σ.next + i, b) :: σc.bl) c = _
  rw [lookF_cons, if_neg (by simp only []; omega)]; exact h3.same c hc hS
 ·obtain ⟨h', hh', rfl⟩ := List.mem_map.1 hh
  rw [look_cons_ne (by omega)]; exact h4 _ hh' id hid hS
 ·obtain ⟨h', hh', rfl⟩ := List.mem_map.1 hh
  rw [Nat.testBit_or, Bool.or_eq_false_iff] at hb
  have hne : i ≠ j := fun he => by
   subst he
   have := hb.2
   rw [Nat.testBit_two_pow_self] at this
   cases this
  rw [look_cons_ne (by omega)]; exact h5 _ hh' j hj hb.1
theorem go_k (v : V) {σ2 : H} (hr : RegOk E σ n S nx ss am ls σc) (hc : o.cls = .k) (hva : ∀ j, j < n → am.testBit j = true → anc.testBit j = true) {S' : Nat → Prop} (hf : Fr S' σc σ2) (hS : ∀ b, b < σ.next → S' b → S b) (hg : ∀ b, S' b → σ.next ≤ b → b < σ.next + n → False) (hv : den1 E D o (restr lk e) σc = some (v, σ2))
  (k : ∀ nx' ss' ks', RegOk E σ n S nx' ss' am ls σ2 → Goes E D σ n (i + 1) S l pl ⟨putE e d v, nx', ss', ks', am, ls⟩ env σ') :
  Goes E D σ n i S (⟨d, o, none⟩ :: l) (⟨anc, lk⟩ :: pl) ⟨e, nx, ss, ks, am, ls⟩ env σ' := by
 obtain ⟨⟨hn, r, rfl⟩, h2, h3, h4, h5, h6⟩ := hr
 subst hn
 have le := hf.le
 have f02 : Fr S σ σ2 := h3.trans hf hS
 suffices hr' : RegOk E σ n S σ2.next (σ2.bl :: σc.bl :: r) am ls σ2 by
  obtain ⟨s', k1, k2, k3⟩ := k σ2.next (σ2.bl :: σc.bl :: r) (i :: ks) hr'
  refine ⟨s', (dk v σ2.next σ2.bl hc (hide_keep fun j hj hp => ?_) hv).trans k1, k2, k3⟩
  refine h5 _ List.mem_cons_self j hj ?_
  cases ha : am.testBit j with
  | false => rfl
  | true =>
   exfalso
   unfold visK at hp
   rw [ha, hva j hj ha] at hp
   cases hp
 refine ⟨⟨rfl, _, rfl⟩, by omega, f02, fun h hh id hid hS => ?_, fun h hh j hj hb => ?_, h6⟩
 ·rcases List.mem_cons.1 hh with rfl | hh
  ·rw [← lookF_eq, ← lookF_eq]; exact f02.same id hid hS
  ·exact h4 _ hh id hid hS
 ·rcases List.mem_cons.1 hh with rfl | hh
  ·have := hf.same (σ.next + j) (by omega) (fun hs => hg _ hs (by omega) (by omega))
   rw [← lookF_eq, this, lookF_eq]
   exact h5 _ List.mem_cons_self j hj hb
  ·exact h5 _ hh j hj hb
theorem go_start (ht : Tidy σ) : RegOk E σ n S (σ.next + n) [σ.bl] 0 [] ⟨σ.next + n, σ.bl⟩ :=
  ⟨⟨rfl, [], rfl⟩, Nat.le_refl _, ⟨ht.wide n, Nat.le_add_right _ _, fun _ _ _ => rfl⟩, fun h hh id hid _ => by rw [List.mem_singleton.1 hh], fun h hh i hi _ => by
    rw [List.mem_singleton.1 hh]; exact ht.gap n _ (by omega) (by omega), fun x hx => by cases hx⟩
theorem check_all {op : AOp} {em : Env} {v : V} {j : Nat} (hv : OldLd E σ n S op em v) : ∀ (ss : List (List (Nat × Blk))) (ks more : List Nat), (∀ h ∈ ss, ∀ id, id < σ.next → ¬ S id → look h id = look σ.bl id) → checkL E σ.next n pl am j op em v ss ks more = true
 | [], _, _, _ => by unfold checkL; rfl
 | h :: ss, ks, more, ho => by
  unfold checkL
  rw [hv.2 0 h _ (ho h List.mem_cons_self)]
  simp only [hv.1, Bool.or_true, Bool.true_and]
  cases ks with
  | nil => rfl
  | cons k ks => exact check_all hv ss ks (k :: more) fun h' hh => ho h' (List.mem_cons_of_mem _ hh)
theorem go_draw {ops : List AOper} (h : Goes E D σ ops.length 0 S ops pl ⟨e, σ.next + ops.length, [σ.bl], [], 0, []⟩ env σ') : drawW E D ops pl e σ = some (env, σ') ∧ Fr S σ σ' := by
 obtain ⟨s', h1, rfl, ⟨hn, r, hs⟩, _, h3, h4, h5, h6⟩ := h
 refine ⟨?_, h3⟩
 rw [drawW_of h1 (List.all_eq_true.2 fun x hx => check_all (h6 x hx) _ _ _ h4) hs]
 have := (hide_keep (n0 := σ.next) (n := ops.length) (p := fun k => s'.am.testBit k) (l := σ'.bl) fun i hi hp => h5 _ (by rw [hs]; exact List.mem_cons_self) i hi hp).1
 rw [this, hn]
theorem old_ld1 {x : AO} {em : Env} {b off : Nat} {c : List V} {v : V} (hx : opv em x = .ptr b off) (ha : Atc σ b c) (hv : c[off]? = some v) (ht : Tidy σ) (hS : ¬ S b) (hb : V.beq v v = true) : OldLd E σ n S (.load none x) em v :=
  ⟨hb, fun nx h p ho => load_of hx (by
    have lt := ha.lt ht
    rw [look_hide_old lt, ho b lt hS, ← lookF_eq]; exact ha) hv⟩
theorem loadn_of {x : AO} {e : Env} {b off nx n : Nat} {h : List (Nat × Blk)} {c : List V} (hx : opv e x = .ptr b off) (hl : look h b = some (.cells c)) (hv : Nat.ble (off + n) c.length = true) :
  aopL E (.load (some n) x) e ⟨nx, h⟩ = some (.agg ((c.drop off).take n)) := by
 unfold aopL
 simp only [hx, rdN, rd, hl]
 rw [if_pos hv]
theorem old_ldn {x : AO} {em : Env} {b off m : Nat} {c c' : List V} (hx : opv em x = .ptr b off) (ha : Atc σ b c) (hv : Nat.ble (off + m) c.length = true) (hc : (c.drop off).take m = c') (ht : Tidy σ) (hS : ¬ S b) (hb : V.beq (.agg c') (.agg c') = true) : OldLd E σ n S (.load (some m) x) em (.agg c') :=
  ⟨hb, fun nx h p ho => by
    have lt := ha.lt ht
    rw [← hc]
    exact loadn_of hx (by rw [look_hide_old lt, ho b lt hS, ← lookF_eq]; exact ha) hv⟩
theorem build1 {ty : TypeId} {x : AO} {em : Env} {id : Nat} {u : V} (hx : opv em x = u) (h : u.one = true) : aopA (.buildSlice ty 1 [.nils] [(0, 1, x)]) em id = some (.sl id 0 1 (.ex 1), .cells [u]) := by
 have h12 : u.live = true ∧ u.cells = [u] := by cases u <;> first | exact ⟨rfl, rfl⟩ | cases h
 show (match fillA [(0, 1, opv em x)] [V.nils] with
  | some l => if allOne l then some (V.sl id 0 1 (.ex 1), Blk.cells l) else none
  | none => none) = _
 rw [hx]
 unfold fillA
 rw [h12.1, h12.2]
 show (if (u.one && true) = true then _ else none) = _
 rw [h]; rfl
end
section
variable {E : List (Nat × Blk)} {D : Den} {σ : H}
theorem live_of {v : V} (h : v.one = true) : v.live = true := by cases v <;> first | rfl | cases h
theorem call_of {f : FuncId} {args : List AO} {e : Env} {vs : List V} {r : Ans} (hx : opvs e args = vs) (hl : vs.all V.live = true) (g : D f vs σ = r) : den1 E D (.call f args) e σ = r := by
 show (if (opvs e args).all V.live then D f (opvs e args) σ else none) = r
 rw [hx, hl]; exact g
end
theorem getL_of {e : Env} {t : Nat} {v : V} {κ : V → Ans} (h : Go.Og.look e t = some v) (hl : v.live = true) : getL e t κ = κ v := by
 unfold getL
 rw [h]
 exact chk_true hl
mutual
theorem beq_self : ∀ v : V, V.inn (fun _ => true) v = true → V.beq v v = true
 | .dead, h => by simp [V.inn] at h
 | .ptr b o, _ => by simp [V.beq]
 | .sl b o n (.ex c), _ => by simp [V.beq]
 | .sl b o n (.op c), _ => by simp [V.beq]
 | .sle b o k e, _ => by simp [V.beq]
 | .mp b, _ => by simp [V.beq]
 | .bool b, _ => by simp [V.beq]
 | .int k n, _ => by simp [V.beq]
 | .str s, _ => by simp [V.beq]
 | .nilp, _ => rfl
 | .nils, _ => rfl
 | .nilm, _ => rfl
 | .nilf, _ => rfl
 | .nili, _ => rfl
 | .fn f a c, h => by
  simp only [V.inn, Bool.and_eq_true] at h
  simp [V.beq, beqs_self a h.1, beqs_self c h.2]
 | .ifc t v, h => by
  simp only [V.inn] at h
  simp [V.beq, beq_self v h]
 | .agg l, h => by
  simp only [V.inn] at h
  simp [V.beq, beqs_self l h]
 | .tup l, h => by
  simp only [V.inn] at h
  simp [V.beq, beqs_self l h]
theorem beqs_self : ∀ l : List V, inns (fun _ => true) l = true → beqs l l = true
 | [], _ => rfl
 | v :: l, h => by
  simp only [inns, Bool.and_eq_true] at h
  simp [beqs, beq_self v h.1, beqs_self l h.2]
end
end
noncomputable section
section
variable {Q : DS → Prop} {E : List (Nat × Blk)} {D : Den} {σ σc σ' : H} {n i : Nat} {S : Nat → Prop} {d : Option Nat} {o : AOp} {l : List AOper} {anc : Nat} {lk : List Nat} {pl : List DP} {e env : Env} {nx am : Nat} {ss : List (List (Nat × Blk))} {ks : List Nat} {ls : List (Nat × AOp × Env × V)}
end
end
noncomputable section
theorem st_den {E : List (Nat × Blk)} {D : Den} {σ : H} {b off n : Nat} {l cs : List V} {x y : AO} {e : Env} (ht : Tidy σ) (h : Atc σ b l) (hx : opv e x = .ptr b off) (hy : (opv e y).cells = cs) (hc : (Nat.beq cs.length n && Nat.ble (off + n) l.length && allOne cs) = true) :
  ∃ σ', den1 E D (.store n x y) e σ = some (.dead, σ') ∧ Fr (fun k => k = b) σ σ' ∧ Atc σ' b (spl l off cs) := by
 have hl : look σ.bl b = some (.cells l) := by rw [← lookF_eq]; exact h
 refine ⟨σ.set b (.cells (spl l off cs)), ?_, ⟨fun k hk => ?_, Nat.le_refl _, fun k hk hn => ?_⟩, ?_⟩
 ·show (match opv e x with
   | .ptr b off => match look σ.bl b with
    | some (.cells l) => if (Nat.beq (opv e y).cells.length n && Nat.ble (off + n) l.length && allOne (opv e y).cells) = true then some (V.dead, σ.set b (.cells (spl l off (opv e y).cells))) else none
    | _ => none
   | _ => none) = _
  rw [hx]
  simp only [hl]
  rw [hy, if_pos hc]
 ·have hk : σ.next ≤ k := hk
  have := h.lt ht
  show lookF (repl σ.bl b _) k = none
  rw [lookF_eq, look_repl, if_neg (by omega), ← lookF_eq]
  exact ht k hk
 ·show lookF (repl σ.bl b _) k = _
  rw [lookF_eq, look_repl, if_neg (fun e => hn e.symm), lookF_eq]
 ·show lookF (repl σ.bl b _) b = _
  rw [lookF_eq, look_repl, if_pos rfl, hl]; rfl
end
noncomputable section
section
variable {E : List (Nat × Blk)} {D : Den} {σ σc σ' : H} {n i : Nat} {S : Nat → Prop} {d : Option Nat} {o : AOp} {g : Option (Nat × Bool)} {l : List AOper} {anc : Nat} {lk : List Nat} {pl : List DP} {e env : Env} {nx am : Nat} {ss : List (List (Nat × Blk))} {ks : List Nat} {ls : List (Nat × AOp × Env × V)}
end
end
noncomputable section
section
variable {E : List (Nat × Blk)} {D : Den} {σ σc σ' : H} {n i : Nat} {S : Nat → Prop} {d : Option Nat} {o : AOp} {l : List AOper} {anc : Nat} {lk : List Nat} {pl : List DP} {e env : Env} {nx am : Nat} {ss : List (List (Nat × Blk))} {ks : List Nat} {ls : List (Nat × AOp × Env × V)}
theorem go_kn (v : V) {σ2 : H} (hr : RegOk E σ n S nx ss am ls σc) (hc : o.cls = .k) (hva : ∀ j, j < n → am.testBit j = true → anc.testBit j = true) {S' : Nat → Prop} (hf : Fr S' σc σ2) (hS : ∀ b, b < σ.next → S' b → S b) (hg : ∀ b, S' b → σ.next ≤ b → b < σ.next + n → am.testBit (b - σ.next) = true) (hv : den1 E D o (restr lk e) σc = some (v, σ2))
    (k : ∀ nx' ss' ks', RegOk E σ n S nx' ss' am ls σ2 → Goes E D σ n (i + 1) S l pl ⟨putE e d v, nx', ss', ks', am, ls⟩ env σ') :
    Goes E D σ n i S (⟨d, o, none⟩ :: l) (⟨anc, lk⟩ :: pl) ⟨e, nx, ss, ks, am, ls⟩ env σ' := by
  obtain ⟨⟨hn, r, rfl⟩, h2, h3, h4, h5, h6⟩ := hr
  subst hn
  have le := hf.le
  have f02 : Fr S σ σ2 := h3.trans hf hS
  suffices hr' : RegOk E σ n S σ2.next (σ2.bl :: σc.bl :: r) am ls σ2 by
    obtain ⟨s', k1, k2, k3⟩ := k σ2.next (σ2.bl :: σc.bl :: r) (i :: ks) hr'
    refine ⟨s', (dk v σ2.next σ2.bl hc (hide_keep fun j hj hp => ?_) hv).trans k1, k2, k3⟩
    refine h5 _ List.mem_cons_self j hj ?_
    cases ha : am.testBit j with
    | false => rfl
    | true =>
      exfalso
      unfold visK at hp
      rw [ha, hva j hj ha] at hp
      cases hp
  refine ⟨⟨rfl, _, rfl⟩, by omega, f02, fun h hh id hid hS => ?_, fun h hh j hj hb => ?_, h6⟩
  · rcases List.mem_cons.1 hh with rfl | hh
    · rw [← lookF_eq, ← lookF_eq]; exact f02.same id hid hS
    · exact h4 _ hh id hid hS
  · rcases List.mem_cons.1 hh with rfl | hh
    · have := hf.same (σ.next + j) (by omega) (fun hs => by
        have := hg _ hs (by omega) (by omega)
        rw [Nat.add_sub_cancel_left, hb] at this; cases this)
      rw [← lookF_eq, this, lookF_eq]
      exact h5 _ List.mem_cons_self j hj hb
    · exact h5 _ hh j hj hb
end
end
noncomputable section
theorem fdiv_pow (a : Int) (n : Nat) : a.fdiv (2 ^ n) = a / 2 ^ n := Int.fdiv_eq_ediv_of_nonneg _ (Int.le_of_lt (Int.pow_pos (by decide)))
theorem wrap_u64 (v : Int) : wrapF .u64 v = v % 18446744073709551616 := by rw [wrapF_eq]; rfl
theorem spl_at : ∀ (a : List V) (x : V) (r : List V) (c : V), spl (a ++ x :: r) a.length [c] = a ++ c :: r
 | [], x, r, c => by cases r <;> simp [spl]
 | y :: a, x, r, c => by
  show y :: spl (a ++ x :: r) a.length [c] = _
  rw [spl_at a x r c]; rfl
def u8s (l : List Int) : List V := l.map fun c => .int .u8 c
theorem u8s_length (l : List Int) : (u8s l).length = l.length := by simp [u8s]
theorem u8s_app (l m : List Int) : u8s (l ++ m) = u8s l ++ u8s m := by simp [u8s]
theorem u8s_one : ∀ l : List Int, allOne (u8s l) = true
 | [] => rfl
 | c :: l => u8s_one l
theorem u8s_bytes : ∀ l : List Int, bytesOf (u8s l) = some (l.map fun c => UInt8.ofNat c.toNat)
 | [] => rfl
 | c :: l => by
  show (bytesOf (u8s l)).map _ = _
  rw [u8s_bytes l]; rfl
def By (σ : H) (v : V) (l : List Int) : Prop := Src σ 1 l.length v (u8s l)
def Nb (σ0 σ : H) (v : V) (l : List Int) : Prop := Dst σ 1 l.length v (u8s l) ∧ ∀ b, Names v b → σ0.next ≤ b
theorem Nb.by_ {σ0 σ : H} {v : V} {l : List Int} (h : Nb σ0 σ v l) : By σ v l := h.1.src
theorem By.one {σ : H} {v : V} {l : List Int} (h : By σ v l) : v.one = true := Src.one h
theorem By.slen {σ : H} {v : V} {l : List Int} (h : By σ v l) (κ : Nat → Ans) : slenK v κ = κ l.length := Src.slen h
theorem By.fr {σ σ' : H} {v : V} {l : List Int} (h : By σ v l) (f : Fr Nowhere σ σ') (ht : Tidy σ) : By σ' v l := Src.fr h f ht (fun _ _ h => h)
theorem Nb.fr {σ0 σ σ' : H} {v : V} {l : List Int} (h : Nb σ0 σ v l) (f : Fr Nowhere σ σ') (ht : Tidy σ) : Nb σ0 σ' v l := ⟨h.1.fr f ht (fun _ _ h => h), h.2⟩
theorem Nb.mono {σ0 σ1 σ : H} {v : V} {l : List Int} (h : Nb σ1 σ v l) (hl : σ0.next ≤ σ1.next) : Nb σ0 σ v l := ⟨h.1, fun b hb => Nat.le_trans hl (h.2 b hb)⟩
theorem Nb.nil (σ0 σ : H) : Nb σ0 σ .nils [] := ⟨Dst.nil σ 1, fun _ h => h.elim⟩
theorem Nb.lit {σ0 σ : H} {b : Nat} {l : List Int} (ha : Atc σ b (u8s l)) (hb : σ0.next ≤ b) : Nb σ0 σ (.sl b 0 l.length (.ex l.length)) l :=
 ⟨.inr ⟨b, rfl, ha, by rw [u8s_length, Nat.mul_one]⟩, fun c hc => by cases hc; exact hb⟩
theorem By.str {E : List (Nat × Blk)} {σ : H} {v : V} {l : List Int} (h : By σ v l) (κ : BS → Ans) : toStrK E σ v κ = κ (BS.ofList (l.map fun c => UInt8.ofNat c.toNat)) := by
 have hs : ∀ κ', srcK E σ 1 v κ' = κ' l.length (u8s l) := fun κ' => Src.srcK h
 unfold toStrK
 rcases h with ⟨_, rfl, _⟩ | ⟨_, _, _, _, rfl, _⟩
 ·simp only []; rw [hs, u8s_bytes]
 ·simp only []; rw [hs, u8s_bytes]
theorem app_by {E : List (Nat × Blk)} {σ0 σ : H} {v x : V} {l m : List Int} (h : Nb σ0 σ v l) (f0 : Fr Nowhere σ0 σ) (hx : By σ x m) (hs : l.length + m.length ≤ 10000000) :
  ∃ u σ', (∀ κ : V → H → Ans, appK E 1 1 v x σ κ = κ u σ') ∧ Nb σ0 σ' u (l ++ m) ∧ Fr Nowhere σ0 σ' ∧ Fr (fun b => σ0.next ≤ b) σ σ' := by
 obtain ⟨u, σ', g, d, n, f⟩ := app_all (E := E) (bytes := 1) h.1 f0.tidy hx (u8s_one m) (by
  unfold growable
  simp only [Nat.mul_one, Bool.and_eq_true, Nat.ble_eq]; omega)
 have hle := f0.le
 refine ⟨u, σ', g, ⟨by rw [List.length_append, u8s_app]; exact d, fun b hb => ?_⟩, f0.trans f (fun b hb hn => by have := h.2 b hn; omega), f.mono fun b _ hb => h.2 b hb⟩
 rcases n b hb with h' | h'
 ·exact h.2 b h'
 ·omega
theorem one_live {v : V} (h : v.one = true) : v.live = true ∧ v.cells = [v] := by
 cases v <;> first | exact ⟨rfl, rfl⟩ | cases h
theorem fill1 {u : V} (h : u.one = true) (κ : List V → Ans) : fillK [(0, 1, u)] [.nils] κ = κ [u] := by
 obtain ⟨h1, h2⟩ := one_live h
 unfold fillK fillA
 rw [h1, h2]
 rfl
end
noncomputable section
def bitsOf : Nat → Nat → List Nat
 | 0, _ => []
 | n + 1, v => (v / 2 ^ n) % 2 :: bitsOf n v
theorem bitsOf_length : ∀ n v, (bitsOf n v).length = n
 | 0, _ => rfl
 | n + 1, v => by simp [bitsOf, bitsOf_length n v]
theorem bitsOf_bin : ∀ n v, ∀ b ∈ bitsOf n v, b < 2
 | 0, _, b, h => by cases h
 | n + 1, v, b, h => by
  rcases List.mem_cons.1 h with rfl | h
  ·exact Nat.mod_lt _ (by decide)
  ·exact bitsOf_bin n v b h
def bit (L : List Nat) (i : Nat) : Nat := L.getD i 0
def packB (L : List Nat) (j : Nat) : Nat := 128 * bit L (8 * j) + 64 * bit L (8 * j + 1) + 32 * bit L (8 * j + 2) + 16 * bit L (8 * j + 3) + 8 * bit L (8 * j + 4) + 4 * bit L (8 * j + 5) + 2 * bit L (8 * j + 6) + bit L (8 * j + 7)
def packN (n : Nat) : Nat := (n + 7) / 8
def pack (L : List Nat) : List Nat := (List.range (packN L.length)).map (packB L)
def Bin (L : List Nat) : Prop := ∀ b ∈ L, b < 2
theorem bit_lt {L : List Nat} (h : Bin L) (i : Nat) : bit L i < 2 := by
 unfold bit
 by_cases hi : i < L.length
 ·rw [List.getD_eq_getElem?_getD, List.getElem?_eq_getElem hi]; exact h _ (List.getElem_mem hi)
 ·rw [List.getD_eq_getElem?_getD, List.getElem?_eq_none (by omega)]; decide
theorem packB_lt {L : List Nat} (h : Bin L) (j : Nat) : packB L j < 256 := by
 unfold packB
 have h0 := bit_lt h (8 * j); have h1 := bit_lt h (8 * j + 1); have h2 := bit_lt h (8 * j + 2); have h3 := bit_lt h (8 * j + 3)
 have h4 := bit_lt h (8 * j + 4); have h5 := bit_lt h (8 * j + 5); have h6 := bit_lt h (8 * j + 6); have h7 := bit_lt h (8 * j + 7)
 omega
theorem pack_length (L : List Nat) : (pack L).length = packN L.length := by simp [pack]
end
noncomputable section
theorem ofInt_nat (n a : Nat) : (BitVec.ofInt n (Int.ofNat a)).toNat = a % 2 ^ n := by
 rw [show Int.ofNat a = ((a : Nat) : Int) from rfl, BitVec.ofInt_natCast, BitVec.toNat_ofNat]
theorem wrapK_nat {k : IntKind} {m : Nat} (h : m ≤ maxN k) : k.wrap (Int.ofNat m) = Int.ofNat m := by
 rw [← wrapF_eq]; exact wrapF_nat h
theorem maxN_u8 : maxN .u8 = 255 := rfl
theorem maxN_u32 : maxN .u32 = 4294967295 := rfl
theorem maxN_u64 : maxN .u64 = 18446744073709551615 := rfl
theorem maxN_i64 : maxN .i64 = 9223372036854775807 := rfl
theorem and1_u32 {a : Nat} (h : a ≤ 4294967295) : andF .u32 (Int.ofNat a) (Int.ofNat 1) = Int.ofNat (a % 2) := by
 rw [andF_eq, BitVec.toNat_and, ofInt_nat, ofInt_nat, show IntKind.bits .u32 = 32 from rfl, Nat.mod_eq_of_lt (show a < 2 ^ 32 by omega), show 1 % 2 ^ 32 = 1 from rfl, Nat.and_one_is_mod]
 exact wrapK_nat (by rw [maxN_u32]; omega)
theorem and1_u64 {a : Nat} (h : a ≤ 18446744073709551615) : andF .u64 (Int.ofNat a) (Int.ofNat 1) = Int.ofNat (a % 2) := by
 rw [andF_eq, BitVec.toNat_and, ofInt_nat, ofInt_nat, show IntKind.bits .u64 = 64 from rfl, Nat.mod_eq_of_lt (show a < 2 ^ 64 by omega), show 1 % 2 ^ 64 = 1 from rfl, Nat.and_one_is_mod]
 exact wrapK_nat (by rw [maxN_u64]; omega)
theorem shr_nat {k : IntKind} {a n : Nat} (h : n ≤ k.bits) : shrF k (Int.ofNat a) n = Int.ofNat (a / 2 ^ n) := by
 rw [shrF_eq, show Nat.min n k.bits = n from Nat.min_eq_left h, fdiv_pow]
 rw [show Int.ofNat a = ((a : Nat) : Int) from rfl, show Int.ofNat (a / 2 ^ n) = ((a / 2 ^ n : Nat) : Int) from rfl, Int.natCast_ediv, Int.natCast_pow]; rfl
theorem or_low {a b n : Nat} (hb : b < 2 ^ n) : (a * 2 ^ n) ||| b = a * 2 ^ n + b := by
 rw [Nat.mul_comm, ← Nat.two_pow_add_eq_or_of_lt hb]
def nI (L : List Nat) : List Int := L.map Int.ofNat
theorem nI_length (L : List Nat) : (nI L).length = L.length := by simp [nI]
theorem nI_app (L M : List Nat) : nI (L ++ M) = nI L ++ nI M := by simp [nI]
def bitsO : List Nat → List Nat
 | [] => []
 | c :: l => bitsOf 8 c ++ bitsO l
theorem bitsO_length : ∀ l : List Nat, (bitsO l).length = 8 * l.length
 | [] => rfl
 | c :: l => by simp [bitsO, bitsO_length l, bitsOf_length]; omega
theorem bitsO_bin : ∀ l : List Nat, Bin (bitsO l)
 | [], b, h => by cases h
 | c :: l, b, h => by
  rcases List.mem_append.1 h with h | h
  ·exact bitsOf_bin 8 c b h
  ·exact bitsO_bin l b h
end
end Go.Og
namespace Go.Proofs.YtgjjnbddbbhloaaGreatDoor
open Go Go.Og
noncomputable section
theorem mk_new {σ : H} (ht : Tidy σ) (z : List V) : ∃ σ1, newB σ (.cells z) = σ1 ∧ Fr Nowhere σ σ1 ∧ Atc σ1 σ.next z ∧ σ1.next = σ.next + 1 := ⟨_, rfl, Fr.new ht _, Atc_newB _, rfl⟩
theorem mk_set {σ : H} {b : Nat} {l : List V} (ht : Tidy σ) (h : Atc σ b l) (z : List V) : ∃ σ1, setF σ b (.cells z) = σ1 ∧ Fr (fun k => k = b) σ σ1 ∧ Atc σ1 b z := ⟨_, rfl, Fr.set ht (h.lt ht) _, Atc_setF _⟩
structure Wr (σ : H) (w : Nat) (u : V) (L : List Nat) : Prop where
 at_ : Atc σ w [u]
 d : Dst σ 1 L.length u (u8s (nI L))
 ne : ¬ Names u w
def Own1 (w : Nat) (u : V) : Nat → Prop := fun b => b = w ∨ Names u b
structure Wst (σ : H) (w : Nat) (u : V) (σ' : H) (u' : V) (L' : List Nat) : Prop where
 wr : Wr σ' w u' L'
 f : Fr (Own1 w u) σ σ'
 g : ∀ b, Names u' b → Names u b ∨ σ.next ≤ b
section
variable {E : List (Nat × Blk)} {σ σ1 σ2 : H} {w : Nat} {u u1 u2 : V} {L L1 L2 : List Nat}
theorem Wst.refl (h : Wr σ w u L) (ht : Tidy σ) : Wst σ w u σ u L := ⟨h, Fr.refl ht, fun _ hb => .inl hb⟩
theorem Wst.trans (h : Wst σ w u σ1 u1 L1) (k : Wst σ1 w u1 σ2 u2 L2) : Wst σ w u σ2 u2 L2 := by
 refine ⟨k.wr, h.f.trans k.f (fun b hb hn => ?_), fun b hb => ?_⟩
 ·rcases hn with hn | hn
  ·exact .inl hn
  ·rcases h.g b hn with h' | h'
   ·exact .inr h'
   ·omega
 ·rcases k.g b hb with h' | h'
  ·exact h.g b h'
  ·exact .inr (Nat.le_trans h.f.le h')
theorem Wr.fr (h : Wr σ w u L) (f : Fr Nowhere σ σ1) (ht : Tidy σ) : Wr σ1 w u L := ⟨f.at_ h.at_ ht (fun h => h), h.d.fr f ht (fun _ _ h => h), h.ne⟩
theorem Wst.behind (f : Fr Nowhere σ σ1) (k : Wst σ1 w u σ2 u2 L2) : Wst σ w u σ2 u2 L2 :=
 ⟨k.wr, f.mono (fun _ _ h => h.elim) |>.trans k.f (fun _ _ h => h), fun b hb => (k.g b hb).imp id (fun h => Nat.le_trans f.le h)⟩
theorem Wst.and (h : Wst σ w u σ1 u1 L1) (f : Fr Nowhere σ1 σ2) : Wst σ w u σ2 u1 L1 :=
 ⟨h.wr.fr f h.f.tidy, h.f.trans f (fun _ _ h => h.elim), h.g⟩
theorem wr_put (h : Wr σ w u L) (ht : Tidy σ) (c : Nat) (hl : L.length < 9000000) : ∃ u' σ', (∀ κ : H → Ans, (appK E 1 1 u (V.sl (H.next σ) 0 1 (.ex 1)) (newB σ (.cells [.int .u8 (Int.ofNat c)])) fun u3 s4 => rtOne u3 (stK 1 w 0 u3 s4 fun s5 => κ s5)) = κ σ') ∧ Wst σ w u σ' u' (L ++ [c]) := by
 obtain ⟨σ1, e1, f1, a1, n1⟩ := mk_new ht [.int .u8 (Int.ofNat c)]
 rw [e1]
 have x : Src σ1 1 1 (V.sl σ.next 0 1 (.ex 1)) [.int .u8 (Int.ofNat c)] := .inr ⟨_, _, _, _, rfl, a1, Nat.le_refl _, rfl⟩
 obtain ⟨u', σ2, g2, d2, m2, f2⟩ := app_all (E := E) (bytes := 1) (h.d.fr f1 ht (fun _ _ h => h)) f1.tidy x rfl (by
  unfold growable
  simp only [Nat.mul_one, Bool.and_eq_true, Nat.ble_eq]; omega)
 have a2 : Atc σ2 w [u] := f2.at_ (f1.at_ h.at_ ht (fun h => h)) f1.tidy h.ne
 have lw := h.at_.lt ht
 have ne' : ¬ Names u' w := fun hb => by
  rcases m2 w hb with h' | h'
  ·exact h.ne h'
  ·omega
 obtain ⟨σ3, e3, f3, a3⟩ := mk_set f2.tidy a2 [u']
 have o := d2.one
 obtain ⟨o1, o2⟩ := one_live o
 refine ⟨u', σ3, fun κ => ?_, ⟨a3, ?_, ne'⟩, ?_, ?_⟩
 ·rw [g2, rtOne_of o, stK_at a2 (by rw [o2]; cases u' <;> first | rfl | cases o), o2]
  show κ (setF σ2 w (.cells [u'])) = _
  rw [e3]
 ·rw [List.length_append, nI_app, u8s_app]
  exact d2.fr f3 f2.tidy (fun b hb hw => ne' (by cases hw; exact hb))
 ·exact ((f1.mono (fun _ _ h => h.elim) : Fr (Own1 w u) σ σ1).trans f2 (fun _ _ h => .inr h)).trans f3 (fun _ _ h => .inl h)
 ·intro b hb
  rcases m2 b hb with h' | h'
  ·exact .inl h'
  ·exact .inr (by omega)
def Off (σ : H) (w : Nat) (u : V) (b : Nat) : Prop := b < σ.next ∧ b ≠ w ∧ ¬ Names u b
theorem Wst.off (h : Wst σ w u σ1 u1 L1) {b : Nat} (o : Off σ w u b) : Off σ1 w u1 b :=
 ⟨Nat.lt_of_lt_of_le o.1 h.f.le, o.2.1, fun hb => (h.g b hb).elim o.2.2 (by have := o.1; omega)⟩
theorem Off.not {b : Nat} (o : Off σ w u b) : ¬ Own1 w u b := fun h => h.elim o.2.1 o.2.2
theorem Off.fr {b : Nat} (o : Off σ w u b) (f : Fr Nowhere σ σ1) : Off σ1 w u b := ⟨Nat.lt_of_lt_of_le o.1 f.le, o.2⟩
theorem Off.new (h : Wr σ w u L) (ht : Tidy σ) {b : Nat} (hb : σ.next ≤ b) (hb' : b < σ1.next) : Off σ1 w u b :=
 ⟨hb', fun e => by have := h.at_.lt ht; omega, fun hn => by have := h.d.lt ht hn; omega⟩
theorem Wst.at_ (h : Wst σ w u σ1 u1 L1) (ht : Tidy σ) {b : Nat} {l : List V} (o : Off σ w u b) (ha : Atc σ b l) : Atc σ1 b l := h.f.at_ ha ht o.not
theorem Wst.by_ (h : Wst σ w u σ1 u1 L1) (ht : Tidy σ) {x : V} {l : List Int} (o : ∀ b, Names x b → Off σ w u b) (hx : By σ x l) : By σ1 x l := Src.fr hx h.f ht fun b hb => (o b hb).not
def AtE (E : List (Nat × Blk)) (σ : H) (b : Nat) (l : List V) : Prop := lookF σ.bl b = some (.cells l) ∨ (lookF σ.bl b = none ∧ lookF E b = some (.cells l))
def Sq (E : List (Nat × Blk)) (σ : H) (x : V) (l : List Int) : Prop := (l = [] ∧ x = .nils) ∨ (∃ b o c, l = [] ∧ x = .sl b o 0 c) ∨ ∃ b o c M, x = .sl b o l.length c ∧ AtE E σ b M ∧ o + l.length ≤ M.length ∧ u8s l = (M.drop o).take l.length
theorem Sq.of {x : V} {l : List Int} (h : By σ x l) : Sq E σ x l := by
 rcases h with ⟨h0, rfl, _⟩ | ⟨b, o, c, M, rfl, ha, hl, hm⟩
 ·exact .inl ⟨List.eq_nil_of_length_eq_zero h0, rfl⟩
 ·exact .inr (.inr ⟨b, o, c, M, rfl, .inl ha, by omega, by rw [hm, Nat.mul_one]⟩)
theorem Sq.one {x : V} {l : List Int} (h : Sq E σ x l) : x.one = true := by
 rcases h with ⟨_, rfl⟩ | ⟨_, _, _, _, rfl⟩ | ⟨_, _, _, _, rfl, _⟩ <;> rfl
theorem Sq.slen {x : V} {l : List Int} (h : Sq E σ x l) (κ : Nat → Ans) : slenK x κ = κ l.length := by
 rcases h with ⟨rfl, rfl⟩ | ⟨_, _, _, rfl, rfl⟩ | ⟨_, _, _, _, rfl, _⟩ <;> rfl
theorem Sq.keep {x : V} {l : List Int} (h : Sq E σ x l) (hs : ∀ b, Names x b → lookF σ1.bl b = lookF σ.bl b) : Sq E σ1 x l := by
 rcases h with h | h | ⟨b, o, c, M, rfl, ha, hl, hm⟩
 ·exact .inl h
 ·exact .inr (.inl h)
 ·refine .inr (.inr ⟨b, o, c, M, rfl, ?_, hl, hm⟩)
  unfold AtE at *
  rw [hs b rfl]; exact ha
theorem Wst.sq (h : Wst σ w u σ1 u1 L1) {x : V} {l : List Int} (o : ∀ b, Names x b → Off σ w u b) (hx : Sq E σ x l) : Sq E σ1 x l := hx.keep fun b hb => h.f.same b (o b hb).1 (o b hb).not
theorem Sq.fr {x : V} {l : List Int} (hx : Sq E σ x l) (f : Fr Nowhere σ σ1) (o : ∀ b, Names x b → b < σ.next) : Sq E σ1 x l := hx.keep fun b hb => f.same b (o b hb) fun h => h
theorem by_at {x : V} {l : List Int} {k : Nat} {c : Int} (h : Sq E σ x l) (hk : l[k]? = some c) (κ : V → Ans) : iaddrSK 1 x (Int.ofNat k) (fun b o => ldK E σ b o κ) = κ (.int .u8 c) := by
 have hlt : k < l.length := by
  rcases Nat.lt_or_ge k l.length with h | h
  ·exact h
  ·rw [List.getElem?_eq_none h] at hk; cases hk
 rcases h with ⟨h0, _⟩ | ⟨_, _, _, h0, _⟩ | ⟨b, o, cp, M, rfl, ha, hl, hm⟩
 ·rw [h0] at hlt; simp at hlt
 ·rw [h0] at hlt; simp at hlt
 ·rw [iaddrSK_lt hlt]
  have h2 : (u8s l)[k]? = some (.int .u8 c) := by unfold u8s; rw [List.getElem?_map, hk]; rfl
  rw [hm, List.getElem?_take, if_pos hlt, List.getElem?_drop] at h2
  show ldK E σ b (o + k * 1) κ = _
  rw [Nat.mul_one]
  have e : ∀ κ' : List V → Ans, rdK E σ b κ' = κ' M := fun κ' => by
   unfold rdK
   rcases ha with ha | ⟨h0, ha⟩
   ·rw [ha]
   ·rw [h0, ha]
  unfold ldK
  rw [e]
  exact nthK_of (by rw [nthF_eq]; exact h2)
theorem nI_get {O : List Nat} {k c : Nat} (h : O[k]? = some c) : (nI O)[k]? = some (Int.ofNat c) := by unfold nI; rw [List.getElem?_map, h]; rfl
theorem bit_of_u32 {v n : Nat} (hv : v ≤ 4294967295) (hn : n ≤ 32) : wrapF .u8 (andF .u32 (shrF .u32 (Int.ofNat v) n) (Int.ofNat 1)) = Int.ofNat (v / 2 ^ n % 2) := by
 rw [shr_nat hn, and1_u32 (Nat.le_trans (Nat.div_le_self _ _) hv), wrapF_nat (by rw [maxN_u8]; omega)]
theorem bit_of_u64 {v n : Nat} (hv : v ≤ 18446744073709551615) (hn : n ≤ 64) : wrapF .i64 (andF .u64 (shrF .u64 (Int.ofNat v) n) (Int.ofNat 1)) = Int.ofNat (v / 2 ^ n % 2) := by
 rw [shr_nat hn, and1_u64 (Nat.le_trans (Nat.div_le_self _ _) hv), wrapF_nat (by rw [maxN_i64]; omega)]
def less : Nat → Int
 | 0 => Int.negSucc 0
 | k + 1 => Int.ofNat k
theorem less_sub {k : Nat} (h : k ≤ 1000) : subF .i64 (Int.ofNat k) (Int.ofNat 1) = less k := by
 cases k with
 | zero => rfl
 | succ k => rw [subF_nat (by omega) (by omega)]; rfl
theorem minF_min (a b : Nat) : minF (Int.ofNat a) (Int.ofNat b) = Int.ofNat (min a b) := by
 unfold minF
 split
 ·rename_i h; have h : (b : Int) < (a : Int) := h; rw [Nat.min_eq_right (by omega)]
 ·rename_i h; have h : ¬ (b : Int) < (a : Int) := h; rw [Nat.min_eq_left (by omega)]
theorem maxF_max (a b : Nat) : maxF (Int.ofNat a) (Int.ofNat b) = Int.ofNat (max a b) := by
 unfold maxF
 split
 ·rename_i h; have h : (b : Int) > (a : Int) := h; rw [Nat.max_eq_right (by omega)]
 ·rename_i h; have h : ¬ (b : Int) > (a : Int) := h; rw [Nat.max_eq_left (by omega)]
theorem maxF_0 (a : Nat) : maxF (Int.ofNat 0) (Int.ofNat a) = Int.ofNat a := by rw [maxF_max, Nat.max_eq_right (Nat.zero_le a)]
theorem minF_le {a b : Nat} (h : a ≤ b) : minF (Int.ofNat a) (Int.ofNat b) = Int.ofNat a := by rw [minF_min, Nat.min_eq_left h]
end
end
noncomputable section
def SpBit (F : List V → H → Ans) : Prop := ∀ (σ : H) (w : Nat) (u : V) (L : List Nat) (c : Nat), Wr σ w u L → Tidy σ → L.length < 9000000 → c < 2 →
 ∃ u' σ', F [.ptr w 0, .int .i64 (Int.ofNat c)] σ = some (.tup [], σ') ∧ Wst σ w u σ' u' (L ++ [c])
def SpBits (F : List V → H → Ans) : Prop := ∀ (σ : H) (w : Nat) (u : V) (L : List Nat) (v n : Nat), Wr σ w u L → Tidy σ → L.length < 8000000 → v ≤ 18446744073709551615 → n ≤ 64 →
 ∃ u' σ', F [.ptr w 0, .int .u64 (Int.ofNat v), .int .i64 (Int.ofNat n)] σ = some (.tup [], σ') ∧ Wst σ w u σ' u' (L ++ bitsOf n v)
def SpBits32 (F : List V → H → Ans) : Prop := ∀ (σ : H) (w : Nat) (u : V) (L : List Nat) (v n : Nat), Wr σ w u L → Tidy σ → L.length < 8000000 → v ≤ 4294967295 → n ≤ 32 →
 ∃ u' σ', F [.ptr w 0, .int .u32 (Int.ofNat v), .int .i64 (Int.ofNat n)] σ = some (.tup [], σ') ∧ Wst σ w u σ' u' (L ++ bitsOf n v)
section
variable {E : List (Nat × Blk)} {D : Den} {W : DrawFn} {N : Nat}
theorem r01bit_F : SpBit (F41 E D W N) := by
 intro σ w u L c h ht hl hc
 obtain ⟨u', σ', g, k⟩ := wr_put (E := E) h ht c hl
 refine ⟨u', σ', ?_, k⟩
 show T41_0 E D W w 0 (Int.ofNat c) σ = _
 unfold T41_0
 have a := h.at_
 have : c = 0 ∨ c = 1 := by omega
 rcases this with rfl | rfl
 ·simp -implicitDefEqProofs only [↓rP, rS, rQ, decide_false, decide_true, Nat.reduceEqDiff, Nat.reduceLT, Nat.reduceLeDiff, ↓ldK_is a]
  exact g _
 ·simp -implicitDefEqProofs only [↓rP, rS, rQ, decide_false, decide_true, Nat.reduceEqDiff, Nat.reduceLT, Nat.reduceLeDiff, ↓ldK_is a]
  exact g _
theorem bits_F (hB : SpBit (D 41)) (hN : 64 < N) : SpBits (F20 E D W N) := by
 intro σ w u L v n h ht hl hv hn
 have loop : ∀ (k n' : Nat) (u : V) (σ : H) (L : List Nat), k ≤ 64 → k < n' → Wr σ w u L → Tidy σ → L.length + k < 9000000 →
   ∃ u' σ', L20_1 E D W N n' w 0 (Int.ofNat v) (less k) σ = some (.tup [], σ') ∧ Wst σ w u σ' u' (L ++ bitsOf k v) := by
  intro k
  induction k with
  | zero =>
   intro n' u σ L hk hn' h ht hl
   obtain ⟨n', rfl⟩ : ∃ k, n' = k + 1 := ⟨n' - 1, by omega⟩
   refine ⟨u, σ, rfl, ?_⟩
   rw [show bitsOf 0 v = [] from rfl, List.append_nil]; exact Wst.refl h ht
  | succ k ih =>
   intro n' u σ L hk hn' h ht hl
   obtain ⟨n', rfl⟩ : ∃ k, n' = k + 1 := ⟨n' - 1, by omega⟩
   obtain ⟨u1, σ1, g1, s1⟩ := hB σ w u L (v / 2 ^ k % 2) h ht (by omega) (Nat.mod_lt _ (by decide))
   obtain ⟨u2, σ2, g2, s2⟩ := ih n' u1 σ1 _ (by omega) (by omega) s1.wr s1.f.tidy (by simp only [List.length_append, List.length_cons, List.length_nil]; omega)
   refine ⟨u2, σ2, ?_, ?_⟩
   ·have key : ∀ R, T20_1 E D W R w 0 (Int.ofNat v) (less (k + 1)) σ = R w 0 (Int.ofNat v) (less k) σ1 := by
     intro R
     unfold T20_1
     have e1 : wrapF .u64 (Int.ofNat k) = Int.ofNat k := wrapF_nat (by rw [maxN_u64]; omega)
     show condK (leF (Int.ofNat 0) (Int.ofNat k)) (nnK (wrapF .u64 (Int.ofNat k)) _) _ = _
     have d1 : leF (Int.ofNat 0) (Int.ofNat k) = true := by rw [leF_nat]; exact decide_eq_true (Nat.zero_le _)
     simp -implicitDefEqProofs only [↓rP, rS, d1, e1, nnK_nat, bit_of_u64 hv (show k ≤ 64 by omega), ↓g1]
     rw [show less (k + 1) = Int.ofNat k from rfl, less_sub (by omega)]
    exact (key _).trans g2
   ·have := s1.trans s2
    rw [List.append_assoc] at this
    exact this
 obtain ⟨u', σ', g, s⟩ := loop n N u σ L hn (by omega) h ht (by omega)
 refine ⟨u', σ', ?_, s⟩
 show T20_0 E D W (L20_1 E D W N N) w 0 (Int.ofNat v) (Int.ofNat n) σ = _
 unfold T20_0
 rw [minF_le hn, maxF_0, less_sub (by omega)]
 exact g
theorem bits32_F (hN : 64 < N) : SpBits32 (F163 E D W N) := by
 intro σ w u L v n h ht hl hv hn
 have loop : ∀ (k n' : Nat) (u : V) (σ : H) (L : List Nat), k ≤ 32 → k < n' → Wr σ w u L → Tidy σ → L.length + k < 9000000 →
   ∃ u' σ', L163_1 E D W N n' w 0 (Int.ofNat v) (less k) σ = some (.tup [], σ') ∧ Wst σ w u σ' u' (L ++ bitsOf k v) := by
  intro k
  induction k with
  | zero =>
   intro n' u σ L hk hn' h ht hl
   obtain ⟨n', rfl⟩ : ∃ k, n' = k + 1 := ⟨n' - 1, by omega⟩
   refine ⟨u, σ, rfl, ?_⟩
   rw [show bitsOf 0 v = [] from rfl, List.append_nil]; exact Wst.refl h ht
  | succ k ih =>
   intro n' u σ L hk hn' h ht hl
   obtain ⟨n', rfl⟩ : ∃ k, n' = k + 1 := ⟨n' - 1, by omega⟩
   obtain ⟨u1, σ1, g1, s1⟩ := wr_put (E := E) h ht (v / 2 ^ k % 2) (by omega)
   obtain ⟨u2, σ2, g2, s2⟩ := ih n' u1 σ1 _ (by omega) (by omega) s1.wr s1.f.tidy (by simp only [List.length_append, List.length_cons, List.length_nil]; omega)
   refine ⟨u2, σ2, ?_, ?_⟩
   ·have key : ∀ R, T163_1 E D W R w 0 (Int.ofNat v) (less (k + 1)) σ = R w 0 (Int.ofNat v) (less k) σ1 := by
     intro R
     unfold T163_1
     have e1 : wrapF .u64 (Int.ofNat k) = Int.ofNat k := wrapF_nat (by rw [maxN_u64]; omega)
     have d1 : leF (Int.ofNat 0) (less (k + 1)) = true := by rw [show less (k + 1) = Int.ofNat k from rfl, leF_nat]; exact decide_eq_true (Nat.zero_le _)
     have a := h.at_
     simp -implicitDefEqProofs only [↓rP, rS, d1, ↓ldK_is a]
     rw [show less (k + 1) = Int.ofNat k from rfl, e1, nnK_nat, bit_of_u32 hv (by omega), g1, less_sub (by omega)]
    exact (key _).trans g2
   ·have := s1.trans s2
    rw [List.append_assoc] at this
    exact this
 obtain ⟨u', σ', g, s⟩ := loop n N u σ L hn (by omega) h ht (by omega)
 refine ⟨u', σ', ?_, s⟩
 show T163_0 E D W (L163_1 E D W N N) w 0 (Int.ofNat v) (Int.ofNat n) σ = _
 unfold T163_0
 rw [minF_le hn, maxF_0, less_sub (by omega)]
 exact g
end
end
noncomputable section
def SpOcts (E : List (Nat × Blk)) (F : List V → H → Ans) : Prop := ∀ (σ : H) (w p : Nat) (u x : V) (L O : List Nat), Wr σ w u L → Tidy σ → L.length + 8 * O.length < 8000000 → O.length ≤ 70000 → (∀ c ∈ O, c < 256) →
 Atc σ p [x] → Sq E σ x (nI O) → Off σ w u p → (∀ b, Names x b → Off σ w u b) →
 ∃ u' σ', F [.ptr w 0, .sl p 0 1 (.ex 1)] σ = some (.tup [], σ') ∧ Wst σ w u σ' u' (L ++ bitsO O)
def SpOct1 (E : List (Nat × Blk)) (F : List V → H → Ans) : Prop := ∀ (σ : H) (w : Nat) (u x : V) (L O : List Nat), Wr σ w u L → Tidy σ → L.length + 8 * O.length < 8000000 → O.length ≤ 70000 → (∀ c ∈ O, c < 256) →
 Sq E σ x (nI O) → (∀ b, Names x b → Off σ w u b) →
 ∃ u' σ', F [.ptr w 0, x] σ = some (.tup [], σ') ∧ Wst σ w u σ' u' (L ++ bitsO O)
section
variable {E : List (Nat × Blk)} {D : Den} {W : DrawFn} {N : Nat}
theorem octs_F (hB : SpBits32 (D 163)) (hN : 70002 < N) : SpOcts E (F87 E D W N) := by
 intro σ w p u x L O h ht hl hO hc ap hx op ox
 have loop : ∀ (P : V → V → Int → H → Ans) (m n' i : Nat) (u : V) (σ : H) (L : List Nat), i + m = O.length → m < n' → Wr σ w u L → Tidy σ → L.length + 8 * m < 8000000 → Atc σ p [x] → Sq E σ x (nI O) → Off σ w u p → (∀ b, Names x b → Off σ w u b) →
   ∃ u' σ', L87_3 E D W N P n' (.ptr w 0) (.sl p 0 1 (.ex 1)) (Int.ofNat 0) (Int.ofNat i) σ = P (.ptr w 0) (.sl p 0 1 (.ex 1)) (Int.ofNat 1) σ' ∧ Wst σ w u σ' u' (L ++ bitsO (O.drop i)) := by
  intro P m
  induction m with
  | zero =>
   intro n' i u σ L hi hn' h ht hl ap hx op ox
   obtain ⟨n', rfl⟩ : ∃ k, n' = k + 1 := ⟨n' - 1, by omega⟩
   refine ⟨u, σ, ?_, ?_⟩
   ·show T87_3 E D W (T87_2 E D W P) _ (.ptr w 0) (.sl p 0 1 (.ex 1)) (Int.ofNat 0) (Int.ofNat i) σ = _
    have key : ∀ K R, T87_3 E D W K R (.ptr w 0) (.sl p 0 1 (.ex 1)) (Int.ofNat 0) (Int.ofNat i) σ = K (.ptr w 0) (.sl p 0 1 (.ex 1)) (Int.ofNat 0) σ := by
     intro K R
     unfold T87_3
     have ia : ∀ κ : Nat → Nat → Ans, iaddrSK 1 (.sl p 0 1 (.ex 1)) (Int.ofNat 0) κ = κ p 0 := fun κ => iaddrSK_lt (Nat.lt_succ_self 0)
     have d1 : decide (i < (nI O).length) = false := decide_eq_false (by rw [nI_length]; omega)
     simp -implicitDefEqProofs only [↓rP, rS, rQ, decide_false, decide_true, Nat.reduceEqDiff, Nat.reduceLT, Nat.reduceLeDiff, ↓ia, ↓ldK_is ap, ↓hx.slen, d1]
    rw [key]
    rfl
   ·rw [show O.drop i = [] from List.drop_eq_nil_of_le (by omega), show bitsO [] = [] from rfl, List.append_nil]; exact Wst.refl h ht
  | succ m ih =>
   intro n' i u σ L hi hn' h ht hl ap hx op ox
   obtain ⟨n', rfl⟩ : ∃ k, n' = k + 1 := ⟨n' - 1, by omega⟩
   have hlt : i < O.length := by omega
   have hO' : O[i]? = some O[i] := List.getElem?_eq_getElem hlt
   have hb : O[i] < 256 := hc _ (List.getElem_mem hlt)
   obtain ⟨u1, σ1, g1, s1⟩ := hB σ w u L O[i] 8 h ht (by omega) (by omega) (by decide)
   obtain ⟨u2, σ2, g2, s2⟩ := ih n' (i + 1) u1 σ1 _ (by omega) (by omega) s1.wr s1.f.tidy (by simp only [List.length_append, bitsOf_length]; omega) (s1.at_ ht op ap) (s1.sq ox hx) (s1.off op) (fun b hb => s1.off (ox b hb))
   refine ⟨u2, σ2, ?_, ?_⟩
   ·have key : ∀ K R, T87_3 E D W K R (.ptr w 0) (.sl p 0 1 (.ex 1)) (Int.ofNat 0) (Int.ofNat i) σ = R (.ptr w 0) (.sl p 0 1 (.ex 1)) (Int.ofNat 0) (Int.ofNat (i + 1)) σ1 := by
     intro K R
     unfold T87_3
     have ia : ∀ κ : Nat → Nat → Ans, iaddrSK 1 (.sl p 0 1 (.ex 1)) (Int.ofNat 0) κ = κ p 0 := fun κ => iaddrSK_lt (Nat.lt_succ_self 0)
     have d1 : decide (i < (nI O).length) = true := decide_eq_true (by rw [nI_length]; omega)
     have rd : ∀ κ, iaddrSK 1 x (Int.ofNat i) (fun b o => ldK E σ b o κ) = κ (.int .u8 (Int.ofNat O[i])) := fun κ => by_at hx (nI_get hO') κ
     have e1 : wrapF .u32 (Int.ofNat O[i]) = Int.ofNat O[i] := wrapF_nat (by rw [maxN_u32]; omega)
     simp -implicitDefEqProofs only [↓rP, rS, rQ, decide_false, decide_true, Nat.reduceEqDiff, Nat.reduceLT, Nat.reduceLeDiff, ↓ia, ↓ldK_is ap, ↓hx.slen, d1, ↓rd, e1, ↓g1, addF_nat (show i + 1 ≤ 9223372036854775807 by omega)]
    exact (key _ _).trans g2
   ·have := s1.trans s2
    rw [List.append_assoc, ← show bitsO (O.drop i) = bitsOf 8 O[i] ++ bitsO (O.drop (i + 1)) by rw [List.drop_eq_getElem_cons hlt]; rfl] at this
    exact this
 obtain ⟨M, rfl⟩ : ∃ k, N = k + 2 := ⟨N - 2, by omega⟩
 obtain ⟨u', σ', g, s⟩ := loop (L87_1 E D W (M + 2) (M + 1)) O.length (M + 2) 0 u σ L (by omega) (by omega) h ht hl ap hx op ox
 refine ⟨u', σ', ?_, by rw [List.drop_zero] at s; exact s⟩
 show T87_1 E D W (L87_3 E D W (M + 2) (L87_1 E D W (M + 2) (M + 1)) (M + 2)) (.ptr w 0) (.sl p 0 1 (.ex 1)) (Int.ofNat 0) σ = _
 have k1 : ∀ K, T87_1 E D W K (.ptr w 0) (.sl p 0 1 (.ex 1)) (Int.ofNat 0) σ = K (.ptr w 0) (.sl p 0 1 (.ex 1)) (Int.ofNat 0) (Int.ofNat 0) σ := by
  intro K
  unfold T87_1
  simp -implicitDefEqProofs only [↓rP, rS, rQ, decide_false, decide_true, Nat.reduceEqDiff, Nat.reduceLT, Nat.reduceLeDiff]
 have k2 : ∀ K, T87_1 E D W K (.ptr w 0) (.sl p 0 1 (.ex 1)) (Int.ofNat 1) σ' = some (.tup [], σ') := by
  intro K
  unfold T87_1
  simp -implicitDefEqProofs only [↓rP, rS, rQ, decide_false, decide_true, Nat.reduceEqDiff, Nat.reduceLT, Nat.reduceLeDiff]
 rw [k1, g]
 exact k2 _
theorem oct1_F (hO : SpOcts E (D 87)) : SpOct1 E (F44 E D W N) := by
 intro σ w u x L O h ht hl hO' hc hx ox
 obtain ⟨σ1, e1, f1, a1, n1⟩ := mk_new ht [x]
 obtain ⟨u', σ2, g2, s2⟩ := hO σ1 w σ.next u x L O (h.fr f1 ht) f1.tidy hl hO' hc a1 (hx.fr f1 fun b hb => (ox b hb).1) (Off.new h ht (Nat.le_refl _) (by omega)) (fun b hb => (ox b hb).fr f1)
 refine ⟨u', σ2, ?_, Wst.behind f1 s2⟩
 show T44_0 E D W w 0 x σ = _
 unfold T44_0
 simp -implicitDefEqProofs only [↓rP, rS, ↓fill1 hx.one, hx.one, ↓e1, ↓g2]
end
end
noncomputable section
def part (L : List Nat) (j : Nat) : Nat → Nat
 | 0 => 0
 | m + 1 => part L j m + bit L (8 * j + m) * 2 ^ (7 - m)
theorem part_dvd (L : List Nat) (j : Nat) : ∀ m, m ≤ 8 → ∃ q, part L j m = q * 2 ^ (8 - m)
 | 0, _ => ⟨0, rfl⟩
 | m + 1, h => by
  obtain ⟨q, e⟩ := part_dvd L j m (by omega)
  refine ⟨q * 2 + bit L (8 * j + m), ?_⟩
  rw [part, e, show 8 - m = (7 - m) + 1 by omega, show 8 - (m + 1) = 7 - m by omega, Nat.pow_succ, Nat.add_mul, Nat.mul_assoc, Nat.mul_comm 2]
theorem part_lt {L : List Nat} (hb : Bin L) (j : Nat) : ∀ m, m ≤ 8 → part L j m + 2 ^ (8 - m) ≤ 256
 | 0, _ => by show 0 + 2 ^ 8 ≤ 256; decide
 | m + 1, h => by
  have e := part_lt hb j m (by omega)
  have b := bit_lt hb (8 * j + m)
  rw [part, show 8 - (m + 1) = 7 - m by omega]
  rw [show 8 - m = (7 - m) + 1 by omega, Nat.pow_succ] at e
  have : bit L (8 * j + m) = 0 ∨ bit L (8 * j + m) = 1 := by omega
  rcases this with h0 | h0 <;> rw [h0] <;> omega
theorem part_8 (L : List Nat) (j : Nat) : part L j 8 = packB L j := by
 simp only [part, packB, Nat.add_zero, show 2 ^ (7 - 0) = 128 from rfl, show 2 ^ (7 - 1) = 64 from rfl, show 2 ^ (7 - 2) = 32 from rfl, show 2 ^ (7 - 3) = 16 from rfl, show 2 ^ (7 - 4) = 8 from rfl, show 2 ^ (7 - 5) = 4 from rfl, show 2 ^ (7 - 6) = 2 from rfl, show 2 ^ (7 - 7) = 1 from rfl]
 omega
theorem bit_ge {L : List Nat} {i : Nat} (h : L.length ≤ i) : bit L i = 0 := by
 unfold bit; rw [List.getD_eq_getElem?_getD, List.getElem?_eq_none h]; rfl
theorem part_more {L : List Nat} {j m : Nat} (h : L.length ≤ 8 * j + m) : ∀ k, m ≤ k → part L j k = part L j m := by
 intro k hk
 induction k with
 | zero => rw [show m = 0 by omega]
 | succ k ih =>
  rcases Nat.lt_or_ge k m with h' | h'
  ·rw [show m = k + 1 by omega]
  ·rw [part, ih h', bit_ge (by omega), Nat.zero_mul, Nat.add_zero]
def whole (L : List Nat) (n : Nat) : List Nat := (List.range n).map (packB L)
theorem whole_length (L : List Nat) (n : Nat) : (whole L n).length = n := by simp [whole]
theorem whole_succ (L : List Nat) (n : Nat) : whole L (n + 1) = whole L n ++ [packB L n] := by simp [whole, List.range_succ]
def octs (L : List Nat) (i : Nat) : List Nat := whole L (i / 8) ++ (if i % 8 = 0 then [] else [part L (i / 8) (i % 8)])
theorem octs_succ (L : List Nat) (i : Nat) : octs L (i + 1) = whole L (i / 8) ++ [part L (i / 8) (i % 8 + 1)] := by
 unfold octs
 by_cases h : i % 8 = 7
 ·rw [show (i + 1) % 8 = 0 by omega, if_pos rfl, show (i + 1) / 8 = i / 8 + 1 by omega, whole_succ, h, part_8, List.append_nil]
 ·rw [if_neg (by omega), show (i + 1) / 8 = i / 8 by omega, show (i + 1) % 8 = i % 8 + 1 by omega]
theorem octs_all (L : List Nat) : octs L L.length = pack L := by
 unfold octs
 show _ = whole L (packN L.length)
 by_cases h : L.length % 8 = 0
 ·rw [if_pos h, List.append_nil, show packN L.length = L.length / 8 by unfold packN; omega]
 ·rw [if_neg h, show packN L.length = L.length / 8 + 1 by unfold packN; omega, whole_succ, ← part_8]
  congr 2
  exact (part_more (by omega) 8 (by omega)).symm
theorem or_u8 {q b n : Nat} (hn : n ≤ 7) (hb : b < 2) (h : q * 2 ^ (n + 1) + b * 2 ^ n ≤ 255) : orF .u8 (Int.ofNat (q * 2 ^ (n + 1))) (shlF .u8 (Int.ofNat b) n) = Int.ofNat (q * 2 ^ (n + 1) + b * 2 ^ n) := by
 have hlt : b * 2 ^ n < 2 ^ (n + 1) := by
  rw [Nat.pow_succ, Nat.mul_comm]
  exact Nat.mul_lt_mul_of_pos_left hb (Nat.pow_pos (by decide))
 rw [shlF_eq, show Nat.min n (IntKind.bits .u8) = n from Nat.min_eq_left (Nat.le_trans hn (by decide)), show Int.ofNat b * 2 ^ n = Int.ofNat (b * 2 ^ n) by
  rw [show Int.ofNat (b * 2 ^ n) = ((b * 2 ^ n : Nat) : Int) from rfl, Int.natCast_mul, Int.natCast_pow]; rfl, wrapK_nat (by rw [maxN_u8]; omega), orF_eq, BitVec.toNat_or, ofInt_nat, ofInt_nat, show IntKind.bits .u8 = 8 from rfl, Nat.mod_eq_of_lt (show q * 2 ^ (n + 1) < 2 ^ 8 by omega), Nat.mod_eq_of_lt (show b * 2 ^ n < 2 ^ 8 by omega), or_low hlt]
 exact wrapK_nat (by rw [maxN_u8]; omega)
theorem quo8 {i : Nat} (h : i ≤ 9223372036854775807) : quoF .i64 (Int.ofNat i) (Int.ofNat 8) = Int.ofNat (i / 8) := by
 rw [quoF_eq, show (Int.ofNat i).tdiv (Int.ofNat 8) = Int.ofNat (i / 8) from rfl]
 exact wrapK_nat (by rw [maxN_i64]; omega)
theorem mod8 (i : Nat) : Int.tmod (Int.ofNat i) (Int.ofNat 8) = Int.ofNat (i % 8) := rfl
section
variable {E : List (Nat × Blk)} {σ0 σ : H} {v : V} {a r : List Int} {c : Int}
theorem nb_set (h : Nb σ0 σ v (a ++ c :: r)) (f0 : Fr Nowhere σ0 σ) (d : Int) :
  ∃ b σ', (∀ κ : Nat → Nat → Ans, iaddrSK 1 v (Int.ofNat a.length) κ = κ b a.length) ∧ (∀ κ : V → Ans, ldK E σ b a.length κ = κ (.int .u8 c)) ∧ (∀ κ : H → Ans, stK 1 b a.length (.int .u8 d) σ κ = κ σ') ∧ Nb σ0 σ' v (a ++ d :: r) ∧ Fr Nowhere σ0 σ' ∧ Fr (fun b => σ0.next ≤ b) σ σ' := by
 obtain ⟨hd, hn⟩ := h
 have hlen : (a ++ c :: r).length = (a ++ d :: r).length := by simp
 have key : ∀ b (cp : Cap), v = .sl b 0 (a ++ c :: r).length cp → Atc σ b (u8s (a ++ c :: r)) → (∀ σ', Atc σ' b (u8s (a ++ d :: r)) → Dst σ' 1 (a ++ d :: r).length v (u8s (a ++ d :: r))) → ∃ b σ', (∀ κ : Nat → Nat → Ans, iaddrSK 1 v (Int.ofNat a.length) κ = κ b a.length) ∧ (∀ κ : V → Ans, ldK E σ b a.length κ = κ (.int .u8 c)) ∧ (∀ κ : H → Ans, stK 1 b a.length (.int .u8 d) σ κ = κ σ') ∧ Nb σ0 σ' v (a ++ d :: r) ∧ Fr Nowhere σ0 σ' ∧ Fr (fun b => σ0.next ≤ b) σ σ' := by
  intro b cp hv ha hd'
  obtain ⟨σ', e, f, a'⟩ := mk_set f0.tidy ha (u8s (a ++ d :: r))
  have nb : σ0.next ≤ b := hn b (by rw [hv]; rfl)
  refine ⟨b, σ', fun κ => ?_, fun κ => ?_, fun κ => ?_, ⟨hd' σ' a', hn⟩, f0.trans f (fun b' hb' e' => by subst e'; omega), f.mono (fun b' _ e' => by subst e'; exact nb)⟩
  ·rw [hv, iaddrSK_lt (by simp)]
   show κ b (0 + a.length * 1) = _
   rw [Nat.zero_add, Nat.mul_one]
  ·exact ldK_get ha (by unfold u8s; rw [List.getElem?_map, List.getElem?_append_right (Nat.le_refl _), Nat.sub_self]; rfl)
  ·rw [stK_at ha (by
    simp only [cells_int, List.length_cons, List.length_nil, u8s_length, List.length_append, Bool.and_eq_true, Nat.beq_eq_true_eq, Nat.ble_eq]
    refine ⟨⟨rfl, ?_⟩, rfl⟩
    show a.length + 1 ≤ _
    omega)]
   rw [show spl (u8s (a ++ c :: r)) a.length (V.int .u8 d).cells = u8s (a ++ d :: r) from by
    have := spl_at (u8s a) (.int .u8 c) (u8s r) (.int .u8 d)
    rw [u8s_length] at this
    rw [u8s_app, u8s_app]
    exact this, e]
 rcases hd with (⟨h0, _⟩ | ⟨b, hv, ha, h0, hl⟩) | ⟨b, hv, ha, hl⟩
 ·simp at h0
 ·refine key b _ hv ha fun σ' a' => .inl (.inr ⟨b, ?_, a', by rw [← hlen]; exact h0, by rw [u8s_length, Nat.mul_one]⟩)
  rw [← hlen]; exact hv
 ·refine key b _ hv ha fun σ' a' => .inr ⟨b, ?_, a', by rw [u8s_length, Nat.mul_one]⟩
  rw [← hlen]; exact hv
end
end
noncomputable section
def SpBytes (B : Nat) (F : List V → H → Ans) : Prop := ∀ (σ : H) (w : Nat) (u : V) (L : List Nat), Wr σ w u L → Tidy σ → Bin L → L.length ≤ B →
 ∃ v σ', F [.ptr w 0] σ = some (v, σ') ∧ Nb σ σ' v (nI (pack L)) ∧ Fr Nowhere σ σ'
theorem octs_length (L : List Nat) (i : Nat) : (octs L i).length = packN i := by
 unfold octs packN
 rw [List.length_append, whole_length]
 split
 ·simp only [List.length_nil]; omega
 ·simp only [List.length_cons, List.length_nil]; omega
theorem dst_get {E : List (Nat × Blk)} {σ : H} {u : V} {L : List Nat} {i : Nat} (h : Dst σ 1 L.length u (u8s (nI L))) (hi : i < L.length) (κ : V → Ans) : iaddrSK 1 u (Int.ofNat i) (fun b o => ldK E σ b o κ) = κ (.int .u8 (Int.ofNat (bit L i))) := by
 have hx : By σ u (nI L) := by
  show Src σ 1 (nI L).length u _
  rw [nI_length]; exact h.src
 refine by_at (Sq.of hx) ?_ κ
 refine nI_get ?_
 unfold bit
 rw [List.getD_eq_getElem?_getD, List.getElem?_eq_getElem hi]; rfl
section
variable {E : List (Nat × Blk)} {D : Den} {W : DrawFn} {N B : Nat}
theorem r01bytes_F (hN : B + 1 < N) (hB : B ≤ 9000000) : SpBytes B (F45 E D W N) := by
 intro σ w u L h ht hb hl
 have loop : ∀ (m n' i : Nat) (v : V) (σ1 : H), i + m = L.length → m < n' → Fr Nowhere σ σ1 → Nb σ σ1 v (nI (octs L i)) →
   ∃ v' σ', L45_2 E D W N n' w 0 v (Int.ofNat i) σ1 = some (v', σ') ∧ Nb σ σ' v' (nI (pack L)) ∧ Fr Nowhere σ σ' := by
  intro m
  induction m with
  | zero =>
   intro n' i v σ1 hi hn' f1 hv
   obtain ⟨n', rfl⟩ : ∃ k, n' = k + 1 := ⟨n' - 1, by omega⟩
   have h1 := h.fr f1 ht
   refine ⟨v, σ1, ?_, by rw [← octs_all, ← (show i = L.length by omega)]; exact hv, f1⟩
   have key : ∀ K1 K2, T45_2 E D W K1 K2 w 0 v (Int.ofNat i) σ1 = K1 v σ1 := by
    intro K1 K2
    unfold T45_2
    have a := h1.at_
    have d1 : decide (i < L.length) = false := decide_eq_false (by omega)
    simp -implicitDefEqProofs only [↓rP, rS, rQ, decide_false, decide_true, Nat.reduceEqDiff, Nat.reduceLT, Nat.reduceLeDiff, ↓ldK_is a, ↓h1.d.slen, d1]
   exact (key _ _).trans rfl
  | succ m ih =>
   intro n' i v σ1 hi hn' f1 hv
   obtain ⟨n', rfl⟩ : ∃ k, n' = k + 1 := ⟨n' - 1, by omega⟩
   have hlt : i < L.length := by omega
   have h1 := h.fr f1 ht
   obtain ⟨v2, σ2, g2, h2, f2⟩ : ∃ v2 σ2, (∀ K1 K4, T45_2 E D W K1 K4 w 0 v (Int.ofNat i) σ1 = K4 w 0 v2 (Int.ofNat i) σ2) ∧ Nb σ σ2 v2 (nI (whole L (i / 8)) ++ Int.ofNat (part L (i / 8) (i % 8)) :: []) ∧ Fr Nowhere σ σ2 := by
    have d1 : decide (i < L.length) = true := decide_eq_true hlt
    have a := h1.at_
    by_cases h8 : i % 8 = 0
    ·obtain ⟨σ2, e2, f2, a2, n2⟩ := mk_new f1.tidy [.int .u8 (Int.ofNat 0)]
     have x : By σ2 (V.sl σ1.next 0 1 (.ex 1)) [Int.ofNat 0] := .inr ⟨_, _, _, _, rfl, a2, Nat.le_refl _, rfl⟩
     obtain ⟨v3, σ3, g3, h3, f3, _⟩ := app_by (E := E) (hv.fr f2 f1.tidy) (f1.trans f2 (fun _ _ h => h)) x (by rw [nI_length, octs_length]; unfold packN; simp only [List.length_cons, List.length_nil]; omega)
     refine ⟨v3, σ3, fun K1 K4 => ?_, ?_, f3⟩
     ·unfold T45_2
      have d2 : eqF (Int.tmod (Int.ofNat i) (Int.ofNat 8)) (Int.ofNat 0) = true := by rw [mod8, eqF_nat]; exact decide_eq_true h8
      simp -implicitDefEqProofs only [↓rP, rS, rQ, decide_false, decide_true, Nat.reduceEqDiff, Nat.reduceLT, Nat.reduceLeDiff, ↓ldK_is a, ↓h1.d.slen, d1, d2, ↓e2, ↓g3, ↓rtOne_of h3.1.one]
     ·have e : octs L i = whole L (i / 8) := by unfold octs; rw [if_pos h8, List.append_nil]
      rw [e] at h3
      rw [h8]; exact h3
    ·refine ⟨v, σ1, fun K1 K4 => ?_, ?_, f1⟩
     ·unfold T45_2
      have d2 : eqF (Int.tmod (Int.ofNat i) (Int.ofNat 8)) (Int.ofNat 0) = false := by rw [mod8, eqF_nat]; exact decide_eq_false h8
      simp -implicitDefEqProofs only [↓rP, rS, rQ, decide_false, decide_true, Nat.reduceEqDiff, Nat.reduceLT, Nat.reduceLeDiff, ↓ldK_is a, ↓h1.d.slen, d1, d2]
     ·have e : octs L i = whole L (i / 8) ++ [part L (i / 8) (i % 8)] := by unfold octs; rw [if_neg h8]
      rw [e, nI_app] at hv
      exact hv
   have hh := h.fr f2 ht
   have lw : (nI (whole L (i / 8))).length = i / 8 := by rw [nI_length, whole_length]
   obtain ⟨b, σ3, ia, rd, st, h3, f3, _⟩ := nb_set (E := E) h2 f2 (Int.ofNat (part L (i / 8) (i % 8 + 1)))
   rw [lw] at ia rd st
   obtain ⟨v4, σ4, g4, h4, f4⟩ := ih n' (i + 1) v2 σ3 (by omega) (by omega) f3 (by rw [octs_succ, nI_app]; exact h3)
   refine ⟨v4, σ4, ?_, h4, f4⟩
   have key : ∀ K, T45_4 E D W K w 0 v2 (Int.ofNat i) σ2 = K w 0 v2 (Int.ofNat i) σ3 := by
    intro K
    unfold T45_4
    have a := hh.at_
    have gt : ∀ κ, iaddrSK 1 u (Int.ofNat i) (fun b o => ldK E σ2 b o κ) = κ (.int .u8 (Int.ofNat (bit L i))) := fun κ => dst_get hh.d hlt κ
    have sh : wrapF .u64 (subF .i64 (Int.ofNat 7) (Int.ofNat (i % 8))) = Int.ofNat (7 - i % 8) := by
     rw [subF_nat (by omega) (by omega), wrapF_nat (by rw [maxN_u64]; omega)]
    have hq : orF .u8 (Int.ofNat (part L (i / 8) (i % 8))) (shlF .u8 (Int.ofNat (bit L i)) (7 - i % 8)) = Int.ofNat (part L (i / 8) (i % 8 + 1)) := by
     obtain ⟨q, e⟩ := part_dvd L (i / 8) (i % 8) (by omega)
     have hlt' := part_lt hb (i / 8) (i % 8 + 1) (by omega)
     have hp : 0 < 2 ^ (8 - (i % 8 + 1)) := Nat.pow_pos (by decide)
     rw [part, show 8 * (i / 8) + i % 8 = i by omega] at hlt' ⊢
     rw [e, show 8 - i % 8 = (7 - i % 8) + 1 by omega] at hlt' ⊢
     exact or_u8 (by omega) (bit_lt hb i) (by omega)
    simp -implicitDefEqProofs only [↓rP, rS, quo8 (show i ≤ 9223372036854775807 by omega), mod8, ↓ia, ↓rd, ↓ldK_is a, ↓gt, sh, nnK_nat, hq, ↓st]
   show T45_2 E D W _ (T45_4 E D W (T45_3 E D W (L45_2 E D W N n'))) w 0 v (Int.ofNat i) σ1 = _
   rw [g2, key]
   show L45_2 E D W N n' w 0 v2 (addF .i64 (Int.ofNat i) (Int.ofNat 1)) σ3 = _
   rw [addF_nat (by omega)]
   exact g4
 obtain ⟨v, σ', g, h1, f1⟩ := loop L.length N 0 .nils σ (by omega) (by omega) (Fr.refl ht) (Nb.nil σ σ)
 exact ⟨v, σ', g, h1, f1⟩
theorem r17bytes_F (hB : SpBytes B (D 45)) {σ : H} {w : Nat} {u : V} {L : List Nat} (h : Wr σ w u L) (ht : Tidy σ) (hb : Bin L) (hl : L.length ≤ B) (h0 : 0 < L.length) :
  ∃ v σ', F23 E D W N [.ptr w 0] σ = some (v, σ') ∧ Nb σ σ' v (nI (pack L)) ∧ Fr Nowhere σ σ' := by
 obtain ⟨v, σ', g, n, f⟩ := hB σ w u L h ht hb hl
 refine ⟨v, σ', ?_, n, f⟩
 show T23_0 E D W w 0 σ = _
 unfold T23_0
 have d1 : decide ((nI (pack L)).length = 0) = false := decide_eq_false (by rw [nI_length, pack_length]; unfold packN; omega)
 simp -implicitDefEqProofs only [↓rP, rS, rQ, decide_false, decide_true, Nat.reduceEqDiff, Nat.reduceLT, Nat.reduceLeDiff, ↓g, ↓rtOne_of n.1.one, ↓n.1.slen, d1]
end
end
noncomputable section
def Cap1 (x : V) : Prop := match x with
 | .sl _ _ n (.ex c) => n ≤ c
 | .sl _ _ _ (.op e) => e = 1
 | _ => True
section
variable {E : List (Nat × Blk)} {σ : H} {x : V} {l : List Int}
theorem bnd_len (l : List Int) (d : Nat) : bnd (some (.int .i64 (Int.ofNat l.length))) d = some l.length := by
 show (if (0 : Int) ≤ Int.ofNat l.length then some (Int.ofNat l.length).toNat else none) = _
 exact if_pos (Int.natCast_nonneg l.length)
theorem to_ex {b o c : Nat} (hc : l.length ≤ c) : sliceV 1 (.sl b o l.length (.ex c)) none (some (.int .i64 (Int.ofNat l.length))) none = some (.sl b o l.length (.ex c)) := by
 unfold sliceV
 simp only [bnd_len, show bnd none c = some c from rfl, show bnd none 0 = some 0 from rfl]
 rw [if_pos (by simp [hc])]
 simp
theorem to_op {b o : Nat} : sliceV 1 (.sl b o l.length (.op 1)) none (some (.int .i64 (Int.ofNat l.length))) none = some (.sl b o l.length (.op 1)) := by
 unfold sliceV
 simp only [bnd_len, show bnd none 0 = some 0 from rfl]
 rw [if_pos (by simp)]
 by_cases h0 : l.length = 0
 ·simp [h0]
 ·rw [if_neg (fun h => h0 (Nat.eq_of_beq_eq_true h).symm)]; simp
theorem from_ex {b o c : Nat} (hc : l.length ≤ c) : ∃ y, sliceV 1 (.sl b o l.length (.ex c)) (some (.int .i64 (Int.ofNat l.length))) none none = some y := by
 unfold sliceV
 simp only [bnd_len, show bnd none c = some c from rfl, show bnd none l.length = some l.length from rfl]
 rw [if_pos (by simp [hc])]
 exact ⟨_, rfl⟩
theorem from_op {b o : Nat} : ∃ y, sliceV 1 (.sl b o l.length (.op 1)) (some (.int .i64 (Int.ofNat l.length))) none none = some y := by
 unfold sliceV
 simp only [bnd_len, show bnd none l.length = some l.length from rfl]
 rw [if_pos (by simp), if_pos (by simp)]
 by_cases h0 : l.length = 0
 ·rw [if_pos (by simp [h0])]; exact ⟨_, rfl⟩
 ·rw [if_neg (fun h => h0 (by simpa using h))]; exact ⟨_, rfl⟩
theorem sl_to (h : Sq E σ x l) (hc : Cap1 x) : ∃ y, (∀ κ : V → Ans, gK (sliceV 1 x none (some (.int .i64 (Int.ofNat l.length))) none) κ = κ y) ∧ Sq E σ y l ∧ ∀ b, Names y b → Names x b := by
 have key : ∀ b o c, x = .sl b o l.length c → sliceV 1 x none (some (.int .i64 (Int.ofNat l.length))) none = some x := by
  intro b o c hx
  subst hx
  cases c with
  | ex c => exact to_ex hc
  | op e =>
   have hc : e = 1 := hc
   subst hc
   exact to_op
 refine ⟨x, fun κ => ?_, h, fun _ h => h⟩
 rcases h with ⟨rfl, rfl⟩ | ⟨b, o, c, rfl, hx⟩ | ⟨b, o, c, M, hx, ha, hl, hm⟩
 ·rfl
 ·rw [key b o c hx]; rfl
 ·rw [key b o c hx]; rfl
theorem sl_from (h : Sq E σ x l) (hc : Cap1 x) : ∃ y, (∀ κ : V → Ans, gK (sliceV 1 x (some (.int .i64 (Int.ofNat l.length))) none none) κ = κ y) := by
 have key : ∀ b o c, x = .sl b o l.length c → ∃ y, sliceV 1 x (some (.int .i64 (Int.ofNat l.length))) none none = some y := by
  intro b o c hx
  subst hx
  cases c with
  | ex c => exact from_ex hc
  | op e =>
   have hc : e = 1 := hc
   subst hc
   exact from_op
 rcases h with ⟨rfl, rfl⟩ | ⟨b, o, c, rfl, hx⟩ | ⟨b, o, c, M, hx, ha, hl, hm⟩
 ·exact ⟨.nils, fun κ => rfl⟩
 ·obtain ⟨y, e⟩ := key b o c hx; exact ⟨y, fun κ => by rw [e]; rfl⟩
 ·obtain ⟨y, e⟩ := key b o c hx; exact ⟨y, fun κ => by rw [e]; rfl⟩
def detBits (n : Nat) : List Nat := if n < 128 then bitsOf 8 n else bitsOf 16 (32768 + n)
def SpCuts (F : List V → H → Ans) : Prop := ∀ (σ : H) (n : Nat), Tidy σ → n < 16384 →
 ∃ b σ', F [.int .i64 (Int.ofNat n)] σ = some (.sl b 0 1 (.op 1), σ') ∧ Atc σ' b [.int .i64 (Int.ofNat n)] ∧ Fr Nowhere σ σ' ∧ σ.next ≤ b
def SpDet (F : List V → H → Ans) : Prop := ∀ (σ : H) (w : Nat) (u : V) (L : List Nat) (n : Nat), Wr σ w u L → Tidy σ → L.length < 8000000 → n < 16384 →
 ∃ u' σ', F [.ptr w 0, .int .i64 (Int.ofNat n)] σ = some (.tup [], σ') ∧ Wst σ w u σ' u' (L ++ detBits n)
def SpPut (E : List (Nat × Blk)) (F : List V → H → Ans) : Prop := ∀ (σ : H) (w : Nat) (u x : V) (L O : List Nat), Wr σ w u L → Tidy σ → L.length + 8 * O.length < 7000000 → O.length < 16384 → (∀ c ∈ O, c < 256) →
 Sq E σ x (nI O) → Cap1 x → (∀ b, Names x b → Off σ w u b) →
 ∃ u' σ', F [.ptr w 0, x] σ = some (.tup [], σ') ∧ Wst σ w u σ' u' (L ++ (detBits O.length ++ bitsO O))
variable {D : Den} {W : DrawFn} {N : Nat}
theorem cuts_F (hN : 2 < N) : SpCuts (F42 E D W N) := by
 intro σ n ht hn
 obtain ⟨M, rfl⟩ : ∃ k, N = k + 1 := ⟨N - 1, by omega⟩
 obtain ⟨σ1, e1, f1, a1, n1⟩ := mk_new ht [.int .i64 (Int.ofNat n)]
 have xs : Src σ1 1 1 (V.sl σ.next 0 1 (.ex 1)) [.int .i64 (Int.ofNat n)] := .inr ⟨_, _, _, _, rfl, a1, Nat.le_refl _, rfl⟩
 obtain ⟨σ2, g2, a2, n2, f2⟩ := app_some (E := E) (bytes := 8) (Dst.nil σ1 1) f1.tidy xs (Nat.succ_pos 0) rfl (by decide)
 refine ⟨σ1.next, σ2, ?_, a2, f1.trans f2 (fun _ _ h => h.elim), f1.le⟩
 show T42_0 E D W (T42_2 E D W (T42_1 E D W) (L42_2 E D W (M + 1) M)) (Int.ofNat n) σ = _
 have key : ∀ K R, T42_0 E D W (T42_2 E D W K R) (Int.ofNat n) σ = K (Int.ofNat n) .nils σ := by
  intro K R
  unfold T42_0 T42_2
  have d1 : decide (16384 ≤ n) = false := decide_eq_false (by omega)
  simp -implicitDefEqProofs only [↓rP, rS, rQ, decide_false, decide_true, Nat.reduceEqDiff, Nat.reduceLT, Nat.reduceLeDiff, maxF_0, d1]
 rw [key]
 unfold T42_1
 simp -implicitDefEqProofs only [↓rP, rS, ↓e1, ↓g2]
theorem det_F (hB : SpBits (D 20)) : SpDet (F43 E D W N) := by
 intro σ w u L n h ht hl hn
 by_cases h1 : n < 128
 ·obtain ⟨u', σ', g, s⟩ := hB σ w u L n 8 h ht hl (by omega) (by decide)
  refine ⟨u', σ', ?_, by unfold detBits; rw [if_pos h1]; exact s⟩
  show T43_0 E D W (.ptr w 0) (Int.ofNat n) σ = _
  unfold T43_0
  have e1 : wrapF .u64 (Int.ofNat n) = Int.ofNat n := wrapF_nat (by rw [maxN_u64]; omega)
  simp -implicitDefEqProofs only [↓rP, rS, rQ, decide_false, decide_true, Nat.reduceEqDiff, Nat.reduceLT, Nat.reduceLeDiff, decide_eq_true h1, e1, ↓g]
 ·obtain ⟨u', σ', g, s⟩ := hB σ w u L (32768 + n) 16 h ht hl (by omega) (by decide)
  refine ⟨u', σ', ?_, by unfold detBits; rw [if_neg h1]; exact s⟩
  show T43_0 E D W (.ptr w 0) (Int.ofNat n) σ = _
  unfold T43_0
  have e1 : wrapF .u64 (Int.ofNat (32768 + n)) = Int.ofNat (32768 + n) := wrapF_nat (by rw [maxN_u64]; omega)
  simp -implicitDefEqProofs only [↓rP, rS, rQ, decide_false, decide_true, Nat.reduceEqDiff, Nat.reduceLT, Nat.reduceLeDiff, decide_eq_false h1, decide_eq_true hn, addF_nat (show 32768 + n ≤ 9223372036854775807 by omega), e1, ↓g]
theorem put_F (hC : SpCuts (D 42)) (hD : SpDet (D 43)) (hO : SpOct1 E (D 44)) (hN : 3 < N) : SpPut E (F21 E D W N) := by
 intro σ w u x L O h ht hl hO' hc hx hcp ox
 obtain ⟨M, rfl⟩ : ∃ k, N = k + 2 := ⟨N - 2, by omega⟩
 obtain ⟨b, σ1, g1, a1, f1, nb⟩ := hC σ O.length ht hO'
 have x1 := hx.fr f1 fun b hb => (ox b hb).1
 have ox1 := fun b hb => (ox b hb).fr f1
 have lb : b < σ1.next := a1.lt f1.tidy
 obtain ⟨u2, σ2, g2, s2⟩ := hD σ1 w u L O.length (h.fr f1 ht) f1.tidy (by omega) hO'
 have ob : Off σ1 w u b := Off.new h ht nb lb
 have a2 := s2.at_ f1.tidy ob a1
 have x2 := s2.sq ox1 x1
 have ox2 := fun b hb => s2.off (ox1 b hb)
 obtain ⟨y, gy, hy, ny⟩ := sl_to x2 hcp
 rw [nI_length] at gy
 have ld : (detBits O.length).length ≤ 16 := by unfold detBits; split <;> rw [bitsOf_length] <;> omega
 obtain ⟨u3, σ3, g3, s3⟩ := hO σ2 w u2 y _ O s2.wr s2.f.tidy (by rw [List.length_append]; omega) (by omega) hc hy (fun b hb => ox2 b (ny b hb))
 have a3 := s3.at_ s2.f.tidy (s2.off ob) a2
 have x3 := s3.sq ox2 x2
 obtain ⟨z, gz⟩ := sl_from x3 hcp
 rw [nI_length] at gz
 refine ⟨u3, σ3, ?_, by have := Wst.behind f1 (s2.trans s3); rw [List.append_assoc] at this; exact this⟩
 have ia : ∀ κ : Nat → Nat → Ans, iaddrSK 1 (.sl b 0 1 (.op 1)) (Int.ofNat 0) κ = κ b 0 := fun κ => iaddrSK_lt (Nat.lt_succ_self 0)
 show T21_0 E D W (T21_1 E D W (T21_1 E D W (L21_1 E D W (M + 2) M))) (.ptr w 0) x σ = _
 have k0 : ∀ K, T21_0 E D W K (.ptr w 0) x σ = K (.ptr w 0) x (.sl b 0 1 (.op 1)) (Int.ofNat 0) σ1 := by
  intro K
  unfold T21_0
  have sx : ∀ κ : Nat → Ans, slenK x κ = κ O.length := fun κ => by rw [hx.slen, nI_length]
  simp -implicitDefEqProofs only [↓rP, rS, ↓sx, ↓g1]
 have k1 : ∀ R, T21_1 E D W R (.ptr w 0) x (.sl b 0 1 (.op 1)) (Int.ofNat 0) σ1 = R (.ptr w 0) z (.sl b 0 1 (.op 1)) (Int.ofNat 1) σ3 := by
  intro R
  unfold T21_1
  simp -implicitDefEqProofs only [↓rP, rS, rQ, decide_false, decide_true, Nat.reduceEqDiff, Nat.reduceLT, Nat.reduceLeDiff, ↓ia, ↓ldK_is a1, ↓ldK_is a2, ↓ldK_is a3, ↓g2, ↓gy, ↓g3, ↓gz, addF_nat (show 0 + 1 ≤ 9223372036854775807 by omega)]
 have k2 : ∀ R, T21_1 E D W R (.ptr w 0) z (.sl b 0 1 (.op 1)) (Int.ofNat 1) σ3 = some (.tup [], σ3) := by
  intro R
  unfold T21_1
  simp -implicitDefEqProofs only [↓rP, rS, rQ, decide_false, decide_true, Nat.reduceEqDiff, Nat.reduceLT, Nat.reduceLeDiff]
 rw [k0, k1, k2]
end
end
noncomputable section
theorem bit_app {L M : List Nat} {i : Nat} (h : i < L.length) : bit (L ++ M) i = bit L i := by
 unfold bit; rw [List.getD_eq_getElem?_getD, List.getD_eq_getElem?_getD, List.getElem?_append_left h]
theorem part_app {L M : List Nat} {j : Nat} : ∀ {m : Nat}, 8 * j + m ≤ L.length → part (L ++ M) j m = part L j m
 | 0, _ => rfl
 | m + 1, h => by rw [part, part, part_app (m := m) (by omega), bit_app (by omega)]
theorem octs_app {L M : List Nat} {i : Nat} (h : i ≤ L.length) : octs (L ++ M) i = octs L i := by
 unfold octs
 have e1 : whole (L ++ M) (i / 8) = whole L (i / 8) := by
  unfold whole
  refine List.map_congr_left fun j hj => ?_
  have := List.mem_range.1 hj
  rw [← part_8, ← part_8, part_app (by omega)]
 rw [e1]
 split
 ·rfl
 ·rw [part_app (by omega)]
structure Pw (σ : H) (w : Nat) (u : V) (L : List Nat) : Prop where
 at_ : Atc σ w [u, .int .i64 (Int.ofNat L.length)]
 d : Dst σ 1 (packN L.length) u (u8s (nI (octs L L.length)))
 ne : ¬ Names u w
 bin : Bin L
structure Pst (σ : H) (w : Nat) (u : V) (σ' : H) (u' : V) (L' : List Nat) : Prop where
 wr : Pw σ' w u' L'
 f : Fr (Own1 w u) σ σ'
 g : ∀ b, Names u' b → Names u b ∨ σ.next ≤ b
section
variable {E : List (Nat × Blk)} {σ σ1 σ2 : H} {w : Nat} {u u1 u2 : V} {L L1 L2 : List Nat}
theorem Pw.fr (h : Pw σ w u L) (f : Fr Nowhere σ σ1) (ht : Tidy σ) : Pw σ1 w u L := ⟨f.at_ h.at_ ht (fun h => h), h.d.fr f ht (fun _ _ h => h), h.ne, h.bin⟩
theorem Pst.refl (h : Pw σ w u L) (ht : Tidy σ) : Pst σ w u σ u L := ⟨h, Fr.refl ht, fun _ hb => .inl hb⟩
theorem Pst.trans (h : Pst σ w u σ1 u1 L1) (k : Pst σ1 w u1 σ2 u2 L2) : Pst σ w u σ2 u2 L2 := by
 refine ⟨k.wr, h.f.trans k.f (fun b hb hn => ?_), fun b hb => ?_⟩
 ·rcases hn with hn | hn
  ·exact .inl hn
  ·rcases h.g b hn with h' | h'
   ·exact .inr h'
   ·omega
 ·rcases k.g b hb with h' | h'
  ·exact h.g b h'
  ·exact .inr (Nat.le_trans h.f.le h')
theorem Pst.behind (f : Fr Nowhere σ σ1) (k : Pst σ1 w u σ2 u2 L2) : Pst σ w u σ2 u2 L2 :=
 ⟨k.wr, f.mono (fun _ _ h => h.elim) |>.trans k.f (fun _ _ h => h), fun b hb => (k.g b hb).imp id (fun h => Nat.le_trans f.le h)⟩
theorem Pst.and (h : Pst σ w u σ1 u1 L1) (f : Fr Nowhere σ1 σ2) : Pst σ w u σ2 u1 L1 := ⟨h.wr.fr f h.f.tidy, h.f.trans f (fun _ _ h => h.elim), h.g⟩
theorem Pst.off (h : Pst σ w u σ1 u1 L1) {b : Nat} (o : Off σ w u b) : Off σ1 w u1 b := ⟨Nat.lt_of_lt_of_le o.1 h.f.le, o.2.1, fun hb => (h.g b hb).elim o.2.2 (by have := o.1; omega)⟩
theorem Pst.at_ (h : Pst σ w u σ1 u1 L1) (ht : Tidy σ) {b : Nat} {l : List V} (o : Off σ w u b) (ha : Atc σ b l) : Atc σ1 b l := h.f.at_ ha ht o.not
theorem Pst.row {esz n : Nat} {v : V} {m : List V} (h : Pst σ w u σ1 u1 L1) (ht : Tidy σ) (o : ∀ b, Names v b → Off σ w u b) (hx : Src σ esz n v m) : Src σ1 esz n v m := hx.fr h.f ht fun b hb => (o b hb).not
theorem Off.pw (h : Pw σ w u L) (ht : Tidy σ) {b : Nat} (hb : σ.next ≤ b) (hb' : b < σ1.next) : Off σ1 w u b :=
 ⟨hb', fun e => by have := h.at_.lt ht; omega, fun hn => by have := h.d.lt ht hn; omega⟩
theorem dst_set {v : V} {a r : List Int} {c : Int} (hd : Dst σ 1 (a ++ c :: r).length v (u8s (a ++ c :: r))) (ht : Tidy σ) (d : Int) :
  ∃ b σ', Names v b ∧ (∀ κ : Nat → Nat → Ans, iaddrSK 1 v (Int.ofNat a.length) κ = κ b a.length) ∧ (∀ κ : V → Ans, ldK E σ b a.length κ = κ (.int .u8 c)) ∧ (∀ κ : H → Ans, stK 1 b a.length (.int .u8 d) σ κ = κ σ') ∧ Dst σ' 1 (a ++ d :: r).length v (u8s (a ++ d :: r)) ∧ Fr (fun k => k = b) σ σ' := by
 have hlen : (a ++ c :: r).length = (a ++ d :: r).length := by simp
 have key : ∀ b (cp : Cap), v = .sl b 0 (a ++ c :: r).length cp → Atc σ b (u8s (a ++ c :: r)) → (∀ σ', Atc σ' b (u8s (a ++ d :: r)) → Dst σ' 1 (a ++ d :: r).length v (u8s (a ++ d :: r))) → ∃ b σ', Names v b ∧ (∀ κ : Nat → Nat → Ans, iaddrSK 1 v (Int.ofNat a.length) κ = κ b a.length) ∧ (∀ κ : V → Ans, ldK E σ b a.length κ = κ (.int .u8 c)) ∧ (∀ κ : H → Ans, stK 1 b a.length (.int .u8 d) σ κ = κ σ') ∧ Dst σ' 1 (a ++ d :: r).length v (u8s (a ++ d :: r)) ∧ Fr (fun k => k = b) σ σ' := by
  intro b cp hv ha hd'
  obtain ⟨σ', e, f, a'⟩ := mk_set ht ha (u8s (a ++ d :: r))
  refine ⟨b, σ', by rw [hv]; rfl, fun κ => ?_, fun κ => ?_, fun κ => ?_, hd' σ' a', f⟩
  ·rw [hv, iaddrSK_lt (by simp)]
   show κ b (0 + a.length * 1) = _
   rw [Nat.zero_add, Nat.mul_one]
  ·exact ldK_get ha (by unfold u8s; rw [List.getElem?_map, List.getElem?_append_right (Nat.le_refl _), Nat.sub_self]; rfl)
  ·rw [stK_at ha (by
    simp only [cells_int, List.length_cons, List.length_nil, u8s_length, List.length_append, Bool.and_eq_true, Nat.beq_eq_true_eq, Nat.ble_eq]
    refine ⟨⟨rfl, ?_⟩, rfl⟩
    show a.length + 1 ≤ _
    omega)]
   rw [show spl (u8s (a ++ c :: r)) a.length (V.int .u8 d).cells = u8s (a ++ d :: r) from by
    have := spl_at (u8s a) (.int .u8 c) (u8s r) (.int .u8 d)
    rw [u8s_length] at this
    rw [u8s_app, u8s_app]
    exact this, e]
 rcases hd with (⟨h0, _⟩ | ⟨b, hv, ha, h0, hl⟩) | ⟨b, hv, ha, hl⟩
 ·simp at h0
 ·refine key b _ hv ha fun σ' a' => .inl (.inr ⟨b, ?_, a', by rw [← hlen]; exact h0, by rw [u8s_length, Nat.mul_one]⟩)
  rw [← hlen]; exact hv
 ·refine key b _ hv ha fun σ' a' => .inr ⟨b, ?_, a', by rw [u8s_length, Nat.mul_one]⟩
  rw [← hlen]; exact hv
end
theorem shr128 : ∀ m, m < 8 → shrF .u8 (Int.ofNat 128) m = shlF .u8 (Int.ofNat 1) (7 - m) := by decide
def SpWBit (F : List V → H → Ans) : Prop := ∀ (σ : H) (w : Nat) (u : V) (L : List Nat) (c : Nat), Pw σ w u L → Tidy σ → L.length < 9000000 → c < 2 →
 ∃ u' σ', F [.ptr w 0, .int .i64 (Int.ofNat c)] σ = some (.tup [], σ') ∧ Pst σ w u σ' u' (L ++ [c])
section
variable {E : List (Nat × Blk)} {D : Den} {W : DrawFn} {N : Nat}
theorem eqK_pn {a o : Nat} (κ : Bool → Ans) : eqK .ptr (.ptr a o) .nilp κ = κ false := rfl
theorem wbit_F : SpWBit (F289 E D W N) := by
 intro σ w u L c h ht hl hc
 have hbin : Bin (L ++ [c]) := fun b hb => by
  rcases List.mem_append.1 hb with hb | hb
  ·exact h.bin b hb
  ·rw [List.mem_singleton.1 hb]; exact hc
 have eO : octs (L ++ [c]) L.length = octs L L.length := octs_app (Nat.le_refl _)
 have a := h.at_
 have hq : quoF .i64 (Int.ofNat L.length) (Int.ofNat 8) = Int.ofNat (L.length / 8) := quo8 (by omega)
 have lenw : (nI (whole (L ++ [c]) (L.length / 8))).length = L.length / 8 := by rw [nI_length, whole_length]
 obtain ⟨u1, σ1, g1, d1, n1, m1, a1, f1⟩ : ∃ u1 σ1, (∀ K, T289_0 E D W K (.ptr w 0) (Int.ofNat c) σ = K (.ptr w 0) (Int.ofNat c) σ1) ∧
   Dst σ1 1 (nI (whole (L ++ [c]) (L.length / 8)) ++ Int.ofNat (part (L ++ [c]) (L.length / 8) (L.length % 8)) :: []).length u1 (u8s (nI (whole (L ++ [c]) (L.length / 8)) ++ Int.ofNat (part (L ++ [c]) (L.length / 8) (L.length % 8)) :: [])) ∧ ¬ Names u1 w ∧
   (∀ b, Names u1 b → Names u b ∨ σ.next ≤ b) ∧ Atc σ1 w [u1, .int .i64 (Int.ofNat L.length)] ∧ Fr (Own1 w u) σ σ1 := by
  by_cases h8 : L.length % 8 = 0
  ·obtain ⟨σ1, e1, f1, b1, n1⟩ := mk_new ht [.int .u8 (Int.ofNat 0)]
   have x : Src σ1 1 1 (V.sl σ.next 0 1 (.ex 1)) [.int .u8 (Int.ofNat 0)] := .inr ⟨_, _, _, _, rfl, b1, Nat.le_refl _, rfl⟩
   obtain ⟨u2, σ2, g2, d2, m2, f2⟩ := app_all (E := E) (bytes := 1) (h.d.fr f1 ht (fun _ _ h => h)) f1.tidy x rfl (by
    unfold growable packN
    simp only [Nat.mul_one, Bool.and_eq_true, Nat.ble_eq]; omega)
   have a2 : Atc σ2 w [u, .int .i64 (Int.ofNat L.length)] := f2.at_ (f1.at_ a ht (fun h => h)) f1.tidy h.ne
   have lw := a.lt ht
   have ne2 : ¬ Names u2 w := fun hb => by
    rcases m2 w hb with h' | h'
    ·exact h.ne h'
    ·omega
   obtain ⟨σ3, e3, f3, a3⟩ := mk_set f2.tidy a2 [u2, .int .i64 (Int.ofNat L.length)]
   have o := d2.one
   refine ⟨u2, σ3, fun K => ?_, ?_, ne2, fun b hb => ?_, a3, ?_⟩
   ·have st : ∀ κ : H → Ans, stK 1 w 0 u2 σ2 κ = κ σ3 := fun κ => by
     obtain ⟨o1, o2⟩ := one_live o
     rw [stK_at a2 (by rw [o2]; cases u2 <;> first | rfl | cases o), o2]
     show κ (setF σ2 w (.cells [u2, .int .i64 (Int.ofNat L.length)])) = _
     rw [e3]
    have dm : decide (L.length % 8 = 0) = true := decide_eq_true h8
    unfold T289_0
    simp -implicitDefEqProofs only [↓rP, rS, eqF_nat, ↓eqK_pn, ↓ldK_is a, mod8, dm, ↓e1, ↓g2, ↓rtOne_of o, ↓st]
   ·have hw : octs L L.length = whole (L ++ [c]) (L.length / 8) := by
     rw [← eO]; unfold octs; rw [if_pos h8, List.append_nil]
    rw [hw] at d2
    rw [h8, show part (L ++ [c]) (L.length / 8) 0 = 0 from rfl, u8s_app]
    have d3 := d2.fr f3 f2.tidy (fun b hb e => ne2 (by cases e; exact hb))
    rw [List.length_append, lenw, show ([Int.ofNat 0] : List Int).length = 1 from rfl]
    rw [show packN L.length = L.length / 8 by unfold packN; omega] at d3
    exact d3
   ·rcases m2 b hb with h' | h'
    ·exact .inl h'
    ·exact .inr (by omega)
   ·exact ((f1.mono (fun _ _ h => h.elim) : Fr (Own1 w u) σ σ1).trans f2 (fun _ _ h => .inr h)).trans f3 (fun _ _ h => .inl h)
  ·refine ⟨u, σ, fun K => ?_, ?_, h.ne, fun _ hb => .inl hb, a, Fr.refl ht⟩
   ·have dm : decide (L.length % 8 = 0) = false := decide_eq_false h8
    unfold T289_0
    simp -implicitDefEqProofs only [↓rP, rS, eqF_nat, ↓eqK_pn, ↓ldK_is a, mod8, dm]
   ·have d := h.d
    rw [← eO, show octs (L ++ [c]) L.length = whole (L ++ [c]) (L.length / 8) ++ [part (L ++ [c]) (L.length / 8) (L.length % 8)] by unfold octs; rw [if_neg h8], nI_app] at d
    rw [List.length_append, lenw]
    rw [show packN L.length = L.length / 8 + 1 by unfold packN; omega] at d
    exact d
 have le1 := f1.le
 have lw1 := a1.lt f1.tidy
 have e8 : 8 * (L.length / 8) + L.length % 8 = L.length := by omega
 have bc : bit (L ++ [c]) L.length = c := by unfold bit; simp
 have eN : octs (L ++ [c]) (L ++ [c]).length = whole (L ++ [c]) (L.length / 8) ++ [part (L ++ [c]) (L.length / 8) (L.length % 8 + 1)] := by rw [List.length_append]; exact octs_succ _ _
 have eL : (L ++ [c]).length = L.length + 1 := by simp
 have pN : packN (L.length + 1) = L.length / 8 + 1 := by unfold packN; omega
 obtain ⟨σ2, g2, d2, a2, f2⟩ : ∃ σ2, (∀ K, T289_1 E D W K (.ptr w 0) (Int.ofNat c) σ1 = K (.ptr w 0) σ2) ∧ Dst σ2 1 (L.length / 8 + 1) u1 (u8s (nI (whole (L ++ [c]) (L.length / 8)) ++ [Int.ofNat (part (L ++ [c]) (L.length / 8) (L.length % 8 + 1))])) ∧
   Atc σ2 w [u1, .int .i64 (Int.ofNat L.length)] ∧ Fr (Names u1) σ1 σ2 := by
  have hpart : part (L ++ [c]) (L.length / 8) (L.length % 8 + 1) = part (L ++ [c]) (L.length / 8) (L.length % 8) + c * 2 ^ (7 - L.length % 8) := by rw [part, e8, bc]
  have : c = 0 ∨ c = 1 := by omega
  rcases this with rfl | rfl
  ·refine ⟨σ1, fun K => ?_, ?_, a1, Fr.refl f1.tidy⟩
   ·unfold T289_1
    simp -implicitDefEqProofs only [↓rP, rS, rQ, decide_false, decide_true, Nat.reduceEqDiff, Nat.reduceLT, Nat.reduceLeDiff]
   ·rw [hpart, Nat.zero_mul, Nat.add_zero]
    rw [List.length_append, lenw] at d1
    exact d1
  ·obtain ⟨b, σ2, nb, ia, rd, st, h3, f3⟩ := dst_set (E := E) d1 f1.tidy (Int.ofNat (part (L ++ [1]) (L.length / 8) (L.length % 8 + 1)))
   rw [lenw] at ia rd st
   have nbw : b ≠ w := fun e => n1 (e ▸ nb)
   refine ⟨σ2, fun K => ?_, ?_, f3.at_ a1 f1.tidy (fun e => nbw e.symm), f3.mono fun b' _ e => by cases e; exact nb⟩
   ·have hor : orF .u8 (Int.ofNat (part (L ++ [1]) (L.length / 8) (L.length % 8))) (shrF .u8 (Int.ofNat 128) (L.length % 8)) = Int.ofNat (part (L ++ [1]) (L.length / 8) (L.length % 8 + 1)) := by
     rw [shr128 _ (Nat.mod_lt _ (by decide))]
     obtain ⟨q, e⟩ := part_dvd (L ++ [1]) (L.length / 8) (L.length % 8) (by omega)
     have hlt := part_lt hbin (L.length / 8) (L.length % 8 + 1) (by omega)
     have hp : 0 < 2 ^ (8 - (L.length % 8 + 1)) := Nat.pow_pos (by decide)
     rw [hpart] at hlt ⊢
     rw [e, show 8 - L.length % 8 = (7 - L.length % 8) + 1 by omega] at hlt ⊢
     exact or_u8 (by omega) (by decide) (by omega)
    unfold T289_1
    simp -implicitDefEqProofs only [↓rP, rS, rQ, decide_false, decide_true, Nat.reduceEqDiff, Nat.reduceLT, Nat.reduceLeDiff, ↓ldK_is a1, hq, ↓ia, ↓rd, mod8, nnK_nat, hor, ↓st]
   ·rw [List.length_append, lenw] at h3
    exact h3
 obtain ⟨σ3, e3, f3, a3⟩ := mk_set f2.tidy a2 [u1, .int .i64 (Int.ofNat (L.length + 1))]
 refine ⟨u1, σ3, ?_, ⟨by rw [eL]; exact a3, ?_, n1, hbin⟩, ?_, m1⟩
 ·show T289_0 E D W (T289_1 E D W (T289_2 E D W)) (.ptr w 0) (Int.ofNat c) σ = _
  rw [g1, g2]
  have st : ∀ κ : H → Ans, stK 1 w 1 (.int .i64 (Int.ofNat (L.length + 1))) σ2 κ = κ σ3 := fun κ => by
   rw [stK_at a2 rfl]
   show κ (setF σ2 w (.cells [u1, .int .i64 (Int.ofNat (L.length + 1))])) = _
   rw [e3]
  unfold T289_2
  simp -implicitDefEqProofs only [↓rP, rS, ↓ldK_is a2, addF_nat (show L.length + 1 ≤ 9223372036854775807 by omega), ↓st]
 ·rw [eN, eL, pN, nI_app]
  exact d2.fr f3 f2.tidy (fun b hb e => n1 (by cases e; exact hb))
 ·refine (f1.trans f2 (fun b hb hn => ?_)).trans f3 (fun _ _ h => .inl h)
  rcases m1 b hn with h' | h'
  ·exact .inr h'
  ·omega
end
end
noncomputable section
def SpWBits (F : List V → H → Ans) : Prop := ∀ (σ : H) (w : Nat) (u : V) (L : List Nat) (v n : Nat) (m : Int), Pw σ w u L → Tidy σ → L.length < 8000000 → v ≤ 4294967295 → n ≤ 32 → maxF (Int.ofNat 0) (minF m (Int.ofNat 32)) = Int.ofNat n →
 ∃ u' σ', F [.ptr w 0, .int .u32 (Int.ofNat v), .int .i64 m] σ = some (.tup [], σ') ∧ Pst σ w u σ' u' (L ++ bitsOf n v)
def SpWWBits (F : List V → H → Ans) : Prop := ∀ (σ : H) (w : Nat) (u : V) (L : List Nat) (v n : Nat), Pw σ w u L → Tidy σ → L.length < 8000000 → v ≤ 4294967295 → n ≤ 32 →
 ∃ u' σ', F [.ptr w 0, .int .u64 (Int.ofNat v), .int .i64 (Int.ofNat n)] σ = some (.tup [], σ') ∧ Pst σ w u σ' u' (L ++ bitsOf n v)
def SpBdd (m : Nat) (F : List V → H → Ans) : Prop := ∀ (σ : H) (n : Int), F [.int .i64 n] σ = some (.int .i64 (maxF (Int.ofNat 0) (minF n (Int.ofNat m))), σ)
theorem bit_of_u32i {v n : Nat} (hv : v ≤ 4294967295) (hn : n ≤ 32) : wrapF .i64 (andF .u32 (shrF .u32 (Int.ofNat v) n) (Int.ofNat 1)) = Int.ofNat (v / 2 ^ n % 2) := by
 rw [shr_nat hn, and1_u32 (Nat.le_trans (Nat.div_le_self _ _) hv), wrapF_nat (by rw [maxN_i64]; omega)]
theorem low32 : ∀ n, n ≤ 32 → maxF (Int.ofNat 0) (minF (subF .i64 (Int.ofNat n) (Int.ofNat 32)) (Int.ofNat 32)) = Int.ofNat 0 := by
 have : ∀ n : Fin 33, maxF (Int.ofNat 0) (minF (subF .i64 (Int.ofNat n.val) (Int.ofNat 32)) (Int.ofNat 32)) = Int.ofNat 0 := by decide
 exact fun n h => this ⟨n, by omega⟩
section
variable {E : List (Nat × Blk)} {D : Den} {W : DrawFn} {N : Nat}
theorem bdd32_F : SpBdd 32 (F260 E D W N) := fun σ n => by
 show T260_0 E D W n σ = _
 rfl
theorem bdd64_F : SpBdd 64 (F182 E D W N) := fun σ n => by
 show T182_0 E D W n σ = _
 rfl
theorem pwbits_F (hB : SpWBit (D 289)) (hM : SpBdd 32 (D 260)) (hN : 64 < N) : SpWBits (F234 E D W N) := by
 intro σ w u L v n m h ht hl hv hn hm
 have loop : ∀ (k n' : Nat) (u : V) (σ : H) (L : List Nat), k ≤ 32 → k < n' → Pw σ w u L → Tidy σ → L.length + k < 9000000 →
   ∃ u' σ', L234_1 E D W N n' (.ptr w 0) (Int.ofNat v) (less k) σ = some (.tup [], σ') ∧ Pst σ w u σ' u' (L ++ bitsOf k v) := by
  intro k
  induction k with
  | zero =>
   intro n' u σ L hk hn' h ht hl
   obtain ⟨n', rfl⟩ : ∃ k, n' = k + 1 := ⟨n' - 1, by omega⟩
   refine ⟨u, σ, rfl, ?_⟩
   rw [show bitsOf 0 v = [] from rfl, List.append_nil]; exact Pst.refl h ht
  | succ k ih =>
   intro n' u σ L hk hn' h ht hl
   obtain ⟨n', rfl⟩ : ∃ k, n' = k + 1 := ⟨n' - 1, by omega⟩
   obtain ⟨u1, σ1, g1, s1⟩ := hB σ w u L (v / 2 ^ k % 2) h ht (by omega) (Nat.mod_lt _ (by decide))
   obtain ⟨u2, σ2, g2, s2⟩ := ih n' u1 σ1 _ (by omega) (by omega) s1.wr s1.f.tidy (by simp only [List.length_append, List.length_cons, List.length_nil]; omega)
   refine ⟨u2, σ2, ?_, ?_⟩
   ·have key : ∀ R, T234_1 E D W R (.ptr w 0) (Int.ofNat v) (less (k + 1)) σ = R (.ptr w 0) (Int.ofNat v) (less k) σ1 := by
     intro R
     unfold T234_1
     show condK (leF (Int.ofNat 0) (Int.ofNat k)) (nnK (Int.ofNat k) _) _ = _
     have d1 : leF (Int.ofNat 0) (Int.ofNat k) = true := by rw [leF_nat]; exact decide_eq_true (Nat.zero_le _)
     simp -implicitDefEqProofs only [↓rP, rS, d1, nnK_nat, bit_of_u32i hv (show k ≤ 32 by omega), ↓g1]
     rw [show less (k + 1) = Int.ofNat k from rfl, less_sub (by omega)]
    exact (key _).trans g2
   ·have := s1.trans s2
    rw [List.append_assoc] at this
    exact this
 obtain ⟨u', σ', g, s⟩ := loop n N u σ L hn (by omega) h ht (by omega)
 refine ⟨u', σ', ?_, s⟩
 show T234_0 E D W (L234_1 E D W N N) (.ptr w 0) (Int.ofNat v) m σ = _
 have gm := hM σ m
 rw [hm] at gm
 unfold T234_0
 simp -implicitDefEqProofs only [↓rP, rS, ↓gm]
 rw [less_sub (by omega)]
 exact g
theorem wwbits_F (hB : SpWBits (D 234)) (hM : SpBdd 64 (D 182)) : SpWWBits (F139 E D W N) := by
 intro σ w u L v n h ht hl hv hn
 obtain ⟨u1, σ1, g1, s1⟩ := hB σ w u L 0 0 (subF .i64 (Int.ofNat n) (Int.ofNat 32)) h ht hl (by decide) (by decide) (low32 n hn)
 rw [show bitsOf 0 0 = [] from rfl, List.append_nil] at s1
 obtain ⟨u2, σ2, g2, s2⟩ := hB σ1 w u1 L v n (Int.ofNat n) s1.wr s1.f.tidy hl hv hn (by rw [minF_le hn, maxF_0])
 refine ⟨u2, σ2, ?_, s1.trans s2⟩
 have gm := hM σ (Int.ofNat n)
 rw [minF_le (show n ≤ 64 by omega), maxF_0] at gm
 have eh : wrapF .u32 (shrF .u64 (Int.ofNat v) 32) = Int.ofNat 0 := by
  rw [shr_nat (show 32 ≤ IntKind.bits .u64 by decide), Nat.div_eq_of_lt (show v < 2 ^ 32 by omega)]; rfl
 have el : wrapF .u32 (Int.ofNat v) = Int.ofNat v := wrapF_nat hv
 show T139_0 E D W (.ptr w 0) (Int.ofNat v) (Int.ofNat n) σ = _
 unfold T139_0
 simp -implicitDefEqProofs only [↓rP, rS, ↓eqK_pn, ↓gm, eh, el, ↓g1, minF_le hn, ↓g2]
def SpEFlag (F : List V → H → Ans) : Prop := ∀ (σ : H) (eb w : Nat) (u : V) (L : List Nat) (c : Bool) (r : List V), Atc σ eb (.ptr w 0 :: r) → Pw σ w u L → Tidy σ → L.length < 8000000 →
 ∃ u' σ', F [.ptr eb 0, .bool c] σ = some (.tup [], σ') ∧ Pst σ w u σ' u' (L ++ [if c = true then 1 else 0])
theorem eflag_F (hB : SpWWBits (D 139)) : SpEFlag (F71 E D W N) := by
 intro σ eb w u L c r a h ht hl
 have ld : ∀ κ : V → Ans, ldK E σ eb 0 κ = κ (.ptr w 0) := fun κ => (ldK_is a).trans rfl
 cases c with
 | true =>
  obtain ⟨u1, σ1, g1, s1⟩ := hB σ w u L 1 1 h ht hl (by decide) (by decide)
  refine ⟨u1, σ1, ?_, s1⟩
  show T71_0 E D W eb 0 true σ = _
  unfold T71_0
  simp -implicitDefEqProofs only [↓rP, rS, ↓ld, ↓g1]
 | false =>
  obtain ⟨u1, σ1, g1, s1⟩ := hB σ w u L 0 1 h ht hl (by decide) (by decide)
  refine ⟨u1, σ1, ?_, s1⟩
  show T71_0 E D W eb 0 false σ = _
  unfold T71_0
  simp -implicitDefEqProofs only [↓rP, rS, ↓ld, ↓g1]
def SpWLen (F : List V → H → Ans) : Prop := ∀ (σ : H) (w : Nat) (u : V) (L : List Nat), Pw σ w u L → F [.ptr w 0] σ = some (.int .i64 (Int.ofNat L.length), σ)
theorem pwlen_F : SpWLen (F162 E D W N) := by
 intro σ w u L h
 have a := h.at_
 show T162_0 E D W (.ptr w 0) σ = _
 unfold T162_0
 simp -implicitDefEqProofs only [↓rP, rS, ↓eqK_pn, ↓ldK_is a]
theorem wwlen_F (hL : SpWLen (D 162)) : SpWLen (F85 E D W N) := by
 intro σ w u L h
 have g := hL σ w u L h
 show T85_0 E D W (.ptr w 0) σ = _
 unfold T85_0
 simp -implicitDefEqProofs only [↓rP, rS, ↓eqK_pn, ↓g]
def SpWBytes (F : List V → H → Ans) : Prop := ∀ (σ : H) (w : Nat) (u : V) (L : List Nat), Pw σ w u L → Tidy σ → L.length < 8000000 → 0 < L.length →
 ∃ v σ', F [.ptr w 0] σ = some (v, σ') ∧ Nb σ σ' v (nI (pack L)) ∧ Fr Nowhere σ σ'
theorem Pw.by_ {σ : H} {w : Nat} {u : V} {L : List Nat} (h : Pw σ w u L) : By σ u (nI (pack L)) := by
 have d := h.d
 rw [octs_all] at d
 have := d.src
 unfold By
 rw [nI_length, pack_length]; exact this
theorem pwbytes_F : SpWBytes (F86 E D W N) := by
 intro σ w u L h ht hl h0
 obtain ⟨v, σ1, g1, n1, f1, _⟩ := app_by (E := E) (Nb.nil σ σ) (Fr.refl ht) h.by_ (by rw [nI_length, pack_length]; unfold packN; simp only [List.length_nil]; omega)
 rw [List.nil_append] at n1
 have a := h.at_
 refine ⟨v, σ1, ?_, n1, f1⟩
 show T86_0 E D W (.ptr w 0) σ = _
 unfold T86_0
 simp -implicitDefEqProofs only [↓rP, rS, ↓eqK_pn, ↓ldK_is a, ↓g1, ↓rtOne_of n1.1.one]
theorem wwbytes_F (hL : SpWLen (D 85)) (hB : SpWBytes (D 86)) : SpWBytes (F40 E D W N) := by
 intro σ w u L h ht hl h0
 obtain ⟨v, σ1, g1, n1, f1⟩ := hB σ w u L h ht hl h0
 refine ⟨v, σ1, ?_, n1, f1⟩
 have gl := hL σ w u L h
 have dz : decide (L.length = 0) = false := decide_eq_false (by omega)
 show T40_0 E D W (.ptr w 0) σ = _
 unfold T40_0
 simp -implicitDefEqProofs only [↓rP, rS, rQ, decide_false, decide_true, Nat.reduceEqDiff, Nat.reduceLT, Nat.reduceLeDiff, ↓eqK_pn, ↓gl, dz, ↓g1, ↓rtOne_of n1.1.one]
end
end
noncomputable section
def SpWOct (F : List V → H → Ans) : Prop := ∀ (σ : H) (w p : Nat) (u x : V) (L O : List Nat), Pw σ w u L → Tidy σ → L.length + 8 * O.length < 8000000 → O.length ≤ 70000 → (∀ c ∈ O, c < 256) →
 Atc σ p [x] → By σ x (nI O) → Off σ w u p → (∀ b, Names x b → Off σ w u b) →
 ∃ u' σ', F [.ptr w 0, .sl p 0 1 (.ex 1)] σ = some (.tup [], σ') ∧ Pst σ w u σ' u' (L ++ bitsO O)
def SpWOct1 (F : List V → H → Ans) : Prop := ∀ (σ : H) (w : Nat) (u x : V) (L O : List Nat), Pw σ w u L → Tidy σ → L.length + 8 * O.length < 8000000 → O.length ≤ 70000 → (∀ c ∈ O, c < 256) →
 By σ x (nI O) → (∀ b, Names x b → Off σ w u b) →
 ∃ u' σ', F [.ptr w 0, x] σ = some (.tup [], σ') ∧ Pst σ w u σ' u' (L ++ bitsO O)
def SpWput (F : List V → H → Ans) : Prop := ∀ (σ : H) (w : Nat) (u : V) (L : List Nat) (n : Nat), Pw σ w u L → Tidy σ → L.length < 7000000 → n < 128 →
 ∃ u' σ', F [.ptr w 0, .int .i64 (Int.ofNat n), .bool false] σ = some (.tup [], σ') ∧ Pst σ w u σ' u' (L ++ bitsOf 8 n)
def SpJoin1 (F : List V → H → Ans) : Prop := ∀ (σ : H) (p : Nat) (x : V) (O : List Nat), Tidy σ → Atc σ p [x] → By σ x (nI O) → O.length ≤ 70000 →
 ∃ y σ', F [.sl p 0 1 (.ex 1)] σ = some (y, σ') ∧ Nb σ σ' y (nI O) ∧ Fr Nowhere σ σ'
def SpCuts1 (F : List V → H → Ans) : Prop := ∀ (σ : H) (n : Nat), Tidy σ → n < 16384 →
 ∃ b σ', F [.int .i64 (Int.ofNat n)] σ = some (.sl b 0 1 (.op 1), σ') ∧ Atc σ' b [.int .i64 (Int.ofNat n)] ∧ Fr Nowhere σ σ' ∧ σ.next ≤ b
def SpLPut (F : List V → H → Ans) : Prop := ∀ (σ : H) (w p : Nat) (u x : V) (L O : List Nat), Pw σ w u L → Tidy σ → L.length + 8 * O.length < 6000000 → O.length < 128 → (∀ c ∈ O, c < 256) →
 Atc σ p [x] → By σ x (nI O) →
 ∃ u' σ', F [.ptr w 0, .sl p 0 1 (.ex 1)] σ = some (.tup [], σ') ∧ Pst σ w u σ' u' (L ++ (bitsOf 8 O.length ++ bitsO O))
theorem Dst.cap1 {σ : H} {k : Nat} {v : V} {l : List V} (h : Dst σ 1 k v l) : Cap1 v := by
 rcases h with (⟨_, rfl, _⟩ | ⟨b, rfl, _⟩) | ⟨b, rfl, _⟩
 ·exact trivial
 ·exact rfl
 ·exact Nat.le_refl _
theorem sl_same {E : List (Nat × Blk)} {σ : H} {x : V} {l : List Int} (h : Sq E σ x l) (hc : Cap1 x) (κ : V → Ans) : gK (sliceV 1 x none (some (.int .i64 (Int.ofNat l.length))) none) κ = κ x := by
 have key : ∀ b o c, x = .sl b o l.length c → sliceV 1 x none (some (.int .i64 (Int.ofNat l.length))) none = some x := by
  intro b o c hx
  subst hx
  cases c with
  | ex c => exact to_ex hc
  | op e =>
   have hc : e = 1 := hc
   subst hc
   exact to_op
 rcases h with ⟨rfl, rfl⟩ | ⟨b, o, c, rfl, hx⟩ | ⟨b, o, c, M, hx, ha, hl, hm⟩
 ·rfl
 ·rw [key b o c hx]; rfl
 ·rw [key b o c hx]; rfl
section
variable {E : List (Nat × Blk)} {D : Den} {W : DrawFn} {N : Nat}
theorem pwoct_F (hB : SpWBits (D 234)) (hN : 70002 < N) : SpWOct (F151 E D W N) := by
 intro σ w p u x L O h ht hl hO hc ap hx op ox
 have b8 : maxF (Int.ofNat 0) (minF (Int.ofNat 8) (Int.ofNat 32)) = Int.ofNat 8 := rfl
 have sx : ∀ κ : Nat → Ans, slenK x κ = κ O.length := fun κ => by rw [hx.slen, nI_length]
 have loop : ∀ (P : V → V → Int → Int → H → Ans) (m n' i : Nat) (u : V) (σ : H) (L : List Nat), i + m = O.length → m < n' → Pw σ w u L → Tidy σ → L.length + 8 * m < 8000000 → Atc σ p [x] → By σ x (nI O) → Off σ w u p → (∀ b, Names x b → Off σ w u b) →
   ∃ u' σ', L151_3 E D W N P n' (.ptr w 0) (.sl p 0 1 (.ex 1)) (Int.ofNat 1) (Int.ofNat 0) x (Int.ofNat O.length) (Int.ofNat i) σ = P (.ptr w 0) (.sl p 0 1 (.ex 1)) (Int.ofNat 1) (Int.ofNat 1) σ' ∧ Pst σ w u σ' u' (L ++ bitsO (O.drop i)) := by
  intro P m
  induction m with
  | zero =>
   intro n' i u σ L hi hn' h ht hl ap hx op ox
   obtain ⟨n', rfl⟩ : ∃ k, n' = k + 1 := ⟨n' - 1, by omega⟩
   refine ⟨u, σ, ?_, ?_⟩
   ·show T151_3 E D W (T151_2 E D W P) _ (.ptr w 0) (.sl p 0 1 (.ex 1)) (Int.ofNat 1) (Int.ofNat 0) x (Int.ofNat O.length) (Int.ofNat i) σ = _
    have key : ∀ K R, T151_3 E D W K R (.ptr w 0) (.sl p 0 1 (.ex 1)) (Int.ofNat 1) (Int.ofNat 0) x (Int.ofNat O.length) (Int.ofNat i) σ = K (.ptr w 0) (.sl p 0 1 (.ex 1)) (Int.ofNat 1) (Int.ofNat 0) σ := by
     intro K R
     unfold T151_3
     have d1 : decide (i < O.length) = false := decide_eq_false (by omega)
     simp -implicitDefEqProofs only [↓rP, rS, rQ, decide_false, decide_true, Nat.reduceEqDiff, Nat.reduceLT, Nat.reduceLeDiff, d1]
    rw [key]
    rfl
   ·rw [show O.drop i = [] from List.drop_eq_nil_of_le (by omega), show bitsO [] = [] from rfl, List.append_nil]; exact Pst.refl h ht
  | succ m ih =>
   intro n' i u σ L hi hn' h ht hl ap hx op ox
   obtain ⟨n', rfl⟩ : ∃ k, n' = k + 1 := ⟨n' - 1, by omega⟩
   have hlt : i < O.length := by omega
   have hO' : O[i]? = some O[i] := List.getElem?_eq_getElem hlt
   have hb : O[i] < 256 := hc _ (List.getElem_mem hlt)
   obtain ⟨u1, σ1, g1, s1⟩ := hB σ w u L O[i] 8 (Int.ofNat 8) h ht (by omega) (by omega) (by decide) b8
   obtain ⟨u2, σ2, g2, s2⟩ := ih n' (i + 1) u1 σ1 _ (by omega) (by omega) s1.wr s1.f.tidy (by simp only [List.length_append, bitsOf_length]; omega) (s1.at_ ht op ap) (s1.row ht ox hx) (s1.off op) (fun b hb => s1.off (ox b hb))
   refine ⟨u2, σ2, ?_, ?_⟩
   ·have key : ∀ K R, T151_3 E D W K R (.ptr w 0) (.sl p 0 1 (.ex 1)) (Int.ofNat 1) (Int.ofNat 0) x (Int.ofNat O.length) (Int.ofNat i) σ = R (.ptr w 0) (.sl p 0 1 (.ex 1)) (Int.ofNat 1) (Int.ofNat 0) x (Int.ofNat O.length) (Int.ofNat (i + 1)) σ1 := by
     intro K R
     unfold T151_3
     have d1 : decide (i < O.length) = true := decide_eq_true hlt
     have rd : ∀ κ, iaddrSK 1 x (Int.ofNat i) (fun b o => ldK E σ b o κ) = κ (.int .u8 (Int.ofNat O[i])) := fun κ => by_at (Sq.of hx) (nI_get hO') κ
     have e1 : wrapF .u32 (Int.ofNat O[i]) = Int.ofNat O[i] := wrapF_nat (by rw [maxN_u32]; omega)
     simp -implicitDefEqProofs only [↓rP, rS, rQ, decide_false, decide_true, Nat.reduceEqDiff, Nat.reduceLT, Nat.reduceLeDiff, d1, ↓rd, e1, ↓g1, addF_nat (show i + 1 ≤ 9223372036854775807 by omega)]
    exact (key _ _).trans g2
   ·have := s1.trans s2
    rw [List.append_assoc, ← show bitsO (O.drop i) = bitsOf 8 O[i] ++ bitsO (O.drop (i + 1)) by rw [List.drop_eq_getElem_cons hlt]; rfl] at this
    exact this
 obtain ⟨M, rfl⟩ : ∃ k, N = k + 2 := ⟨N - 2, by omega⟩
 obtain ⟨u', σ', g, s⟩ := loop (L151_1 E D W (M + 2) (M + 1)) O.length (M + 2) 0 u σ L (by omega) (by omega) h ht hl ap hx op ox
 refine ⟨u', σ', ?_, by rw [List.drop_zero] at s; exact s⟩
 have ia : ∀ κ : Nat → Nat → Ans, iaddrSK 1 (.sl p 0 1 (.ex 1)) (Int.ofNat 0) κ = κ p 0 := fun κ => iaddrSK_lt (Nat.lt_succ_self 0)
 show T151_1 E D W (L151_3 E D W (M + 2) (L151_1 E D W (M + 2) (M + 1)) (M + 2)) (.ptr w 0) (.sl p 0 1 (.ex 1)) (Int.ofNat 1) (Int.ofNat 0) σ = _
 have k1 : ∀ K, T151_1 E D W K (.ptr w 0) (.sl p 0 1 (.ex 1)) (Int.ofNat 1) (Int.ofNat 0) σ = K (.ptr w 0) (.sl p 0 1 (.ex 1)) (Int.ofNat 1) (Int.ofNat 0) x (Int.ofNat O.length) (Int.ofNat 0) σ := by
  intro K
  unfold T151_1
  simp -implicitDefEqProofs only [↓rP, rS, rQ, decide_false, decide_true, Nat.reduceEqDiff, Nat.reduceLT, Nat.reduceLeDiff, ↓ia, ↓ldK_is ap, ↓sx]
 have k2 : ∀ K, T151_1 E D W K (.ptr w 0) (.sl p 0 1 (.ex 1)) (Int.ofNat 1) (Int.ofNat 1) σ' = some (.tup [], σ') := by
  intro K
  unfold T151_1
  simp -implicitDefEqProofs only [↓rP, rS, rQ, decide_false, decide_true, Nat.reduceEqDiff, Nat.reduceLT, Nat.reduceLeDiff, Nat.lt_irrefl]
 rw [k1, g]
 exact k2 _
theorem wwoct_F (hO : SpWOct (D 151)) : SpWOct1 (F77 E D W N) := by
 intro σ w u x L O h ht hl hO' hc hx ox
 obtain ⟨σ1, e1, f1, a1, n1⟩ := mk_new ht [x]
 obtain ⟨u', σ2, g2, s2⟩ := hO σ1 w σ.next u x L O (h.fr f1 ht) f1.tidy hl hO' hc a1 (Src.fr hx f1 ht fun _ _ h => h) (Off.pw h ht (Nat.le_refl _) (by omega)) (fun b hb => (ox b hb).fr f1)
 refine ⟨u', σ2, ?_, Pst.behind f1 s2⟩
 have xo : x.one = true := Src.one hx
 show T77_0 E D W (.ptr w 0) x σ = _
 unfold T77_0
 simp -implicitDefEqProofs only [↓rP, rS, ↓eqK_pn, ↓fill1 xo, xo, ↓e1, ↓g2]
theorem lput_F (hB : SpWWBits (D 139)) : SpWput (F149 E D W N) := by
 intro σ w u L n h ht hl hn
 obtain ⟨u1, σ1, g1, s1⟩ := hB σ w u L n 8 h ht (by omega) (by omega) (by decide)
 refine ⟨u1, σ1, ?_, s1⟩
 have ew : wrapF .u64 (Int.ofNat n) = Int.ofNat n := wrapF_nat (by rw [maxN_u64]; omega)
 have d1 : decide (n < 128) = true := decide_eq_true hn
 show T149_0 E D W (.ptr w 0) (Int.ofNat n) false σ = _
 unfold T149_0
 simp -implicitDefEqProofs only [↓rP, rS, rQ, decide_false, decide_true, Nat.reduceEqDiff, Nat.reduceLT, Nat.reduceLeDiff, d1, ew, ↓g1]
theorem join1_F (hN : 3 < N) : SpJoin1 (F147 E D W N) := by
 intro σ p x O ht ap hx hO
 obtain ⟨M, rfl⟩ : ∃ k, N = k + 2 := ⟨N - 2, by omega⟩
 obtain ⟨y, σ1, g1, n1, f1, _⟩ := app_by (E := E) (Nb.nil σ σ) (Fr.refl ht) hx (by rw [nI_length]; simp only [List.length_nil]; omega)
 rw [List.nil_append] at n1
 refine ⟨y, σ1, ?_, n1, f1⟩
 have ia : ∀ κ : Nat → Nat → Ans, iaddrSK 1 (.sl p 0 1 (.ex 1)) (Int.ofNat 0) κ = κ p 0 := fun κ => iaddrSK_lt (Nat.lt_succ_self 0)
 show T147_2 E D W (T147_1 E D W) (T147_2 E D W (T147_1 E D W) (L147_2 E D W (M + 2) M)) .nils (.sl p 0 1 (.ex 1)) (Int.ofNat 1) (Int.ofNat 0) σ = _
 have k1 : ∀ K R, T147_2 E D W K R .nils (.sl p 0 1 (.ex 1)) (Int.ofNat 1) (Int.ofNat 0) σ = R y (.sl p 0 1 (.ex 1)) (Int.ofNat 1) (Int.ofNat 1) σ1 := by
  intro K R
  unfold T147_2
  simp -implicitDefEqProofs only [↓rP, rS, rQ, decide_false, decide_true, Nat.reduceEqDiff, Nat.reduceLT, Nat.reduceLeDiff, ↓ia, ↓ldK_is ap, ↓g1, ↓rtOne_of n1.1.one, addF_nat (show 0 + 1 ≤ 9223372036854775807 by omega)]
 have k2 : ∀ K R, T147_2 E D W K R y (.sl p 0 1 (.ex 1)) (Int.ofNat 1) (Int.ofNat 1) σ1 = K y σ1 := by
  intro K R
  unfold T147_2
  simp -implicitDefEqProofs only [↓rP, rS, rQ, decide_false, decide_true, Nat.reduceEqDiff, Nat.reduceLT, Nat.reduceLeDiff, Nat.lt_irrefl]
 rw [k1, k2]; rfl
theorem lcut_F {σ : H} {n : Nat} (hn : n < 16384) : F244 E D W N [.int .i64 (Int.ofNat n)] σ = some (.tup [.int .i64 (Int.ofNat n), .bool false], σ) := by
 have d1 : decide (n < 16384) = true := decide_eq_true hn
 show T244_0 E D W (Int.ofNat n) σ = _
 unfold T244_0
 simp -implicitDefEqProofs only [↓rP, rS, rQ, decide_false, decide_true, Nat.reduceEqDiff, Nat.reduceLT, Nat.reduceLeDiff, d1]
theorem lCuts_F (hC : ∀ (σ : H) (n : Nat), n < 16384 → D 244 [.int .i64 (Int.ofNat n)] σ = some (.tup [.int .i64 (Int.ofNat n), .bool false], σ)) (hN : 3 < N) : SpCuts1 (F148 E D W N) := by
 intro σ n ht hn
 obtain ⟨M, rfl⟩ : ∃ k, N = k + 2 := ⟨N - 2, by omega⟩
 obtain ⟨σ1, e1, f1, a1, n1⟩ := mk_new ht [.int .i64 (Int.ofNat n)]
 have xs : Src σ1 1 1 (V.sl σ.next 0 1 (.ex 1)) [.int .i64 (Int.ofNat n)] := .inr ⟨_, _, _, _, rfl, a1, Nat.le_refl _, rfl⟩
 obtain ⟨σ2, g2, a2, n2, f2⟩ := app_some (E := E) (bytes := 8) (Dst.nil σ1 1) f1.tidy xs (Nat.succ_pos 0) rfl (by decide)
 refine ⟨σ1.next, σ2, ?_, a2, f1.trans f2 (fun _ _ h => h.elim), by omega⟩
 have c1 := hC σ n hn
 show T148_2 E D W (T148_1 E D W) (T148_2 E D W (T148_1 E D W) (L148_2 E D W (M + 2) M)) (maxF (Int.ofNat n) (Int.ofNat 0)) .nils true σ = _
 have k1 : ∀ K R, T148_2 E D W K R (Int.ofNat n) .nils true σ = R (subF .i64 (Int.ofNat n) (Int.ofNat n)) (.sl σ1.next 0 1 (.op 1)) false σ2 := by
  intro K R
  unfold T148_2
  simp -implicitDefEqProofs only [↓rP, rS, rQ, decide_false, decide_true, Nat.reduceEqDiff, Nat.reduceLT, Nat.reduceLeDiff, ↓c1, ↓e1, ↓g2]
 rw [maxF_max, Nat.max_eq_left (Nat.zero_le n), k1]
 rfl
theorem lPut_F (hJ : SpJoin1 (D 147)) (hC : SpCuts1 (D 148)) (hP : SpWput (D 149)) (hO : SpWOct1 (D 77)) (hN : 3 < N) : SpLPut (F74 E D W N) := by
 intro σ w p u x L O h ht hl hO' hc ap hx
 obtain ⟨M, rfl⟩ : ∃ k, N = k + 2 := ⟨N - 2, by omega⟩
 obtain ⟨y, σ1, g1, n1, f1⟩ := hJ σ p x O ht ap hx (by omega)
 obtain ⟨b, σ2, g2, a2, f2, nb⟩ := hC σ1 O.length f1.tidy (by omega)
 have f02 : Fr Nowhere σ σ2 := f1.trans f2 (fun _ _ h => h)
 have le1 := f1.le
 have y2 := n1.fr f2 f1.tidy
 have lb := a2.lt f2.tidy
 obtain ⟨u3, σ3, g3, s3⟩ := hP σ2 w u L O.length (h.fr f02 ht) f2.tidy (by omega) hO'
 have ob : Off σ2 w u b := Off.pw h ht (by omega) lb
 have oy : ∀ c, Names y c → Off σ2 w u c := fun c hc => Off.pw h ht (n1.2 c hc) (y2.1.lt f2.tidy hc)
 have a3 := s3.at_ f2.tidy ob a2
 have y3 : By σ3 y (nI O) := s3.row f2.tidy oy y2.by_
 have gz : ∀ κ : V → Ans, gK (sliceV 1 y none (some (.int .i64 (Int.ofNat O.length))) none) κ = κ y := by
  have := sl_same (E := E) (Sq.of y3) (Dst.cap1 y2.1)
  rwa [nI_length] at this
 obtain ⟨u4, σ4, g4, s4⟩ := hO σ3 w u3 y _ O s3.wr s3.f.tidy (by rw [List.length_append, bitsOf_length]; omega) (by omega) hc y3 (fun c hc => s3.off (oy c hc))
 have s24 := s3.trans s4
 have a4 := s4.at_ s3.f.tidy (s3.off ob) a3
 have y4 : By σ4 y (nI O) := s24.row f2.tidy oy y2.by_
 obtain ⟨t, gt⟩ := sl_from (E := E) (Sq.of y4) (Dst.cap1 y2.1)
 rw [nI_length] at gt
 refine ⟨u4, σ4, ?_, by have := Pst.behind f02 s24; rw [List.append_assoc] at this; exact this⟩
 have ia : ∀ κ : Nat → Nat → Ans, iaddrSK 1 (.sl b 0 1 (.op 1)) (Int.ofNat 0) κ = κ b 0 := fun κ => iaddrSK_lt (Nat.lt_succ_self 0)
 have sy : ∀ κ : Nat → Ans, slenK y κ = κ O.length := fun κ => by rw [n1.by_.slen, nI_length]
 have dl : decide (16384 ≤ O.length) = false := decide_eq_false (by omega)
 show T74_0 E D W (T74_1 E D W (T74_1 E D W (L74_1 E D W (M + 2) M))) (.ptr w 0) (.sl p 0 1 (.ex 1)) σ = _
 have k0 : ∀ K, T74_0 E D W K (.ptr w 0) (.sl p 0 1 (.ex 1)) σ = K (.ptr w 0) y (.sl b 0 1 (.op 1)) (Int.ofNat 1) (Int.ofNat 0) σ2 := by
  intro K
  unfold T74_0
  simp -implicitDefEqProofs only [↓rP, rS, ↓g1, ↓rtOne_of n1.1.one, ↓sy, ↓g2]
 have k1 : ∀ R, T74_1 E D W R (.ptr w 0) y (.sl b 0 1 (.op 1)) (Int.ofNat 1) (Int.ofNat 0) σ2 = R (.ptr w 0) t (.sl b 0 1 (.op 1)) (Int.ofNat 1) (Int.ofNat 1) σ4 := by
  intro R
  unfold T74_1
  simp -implicitDefEqProofs only [↓rP, rS, rQ, decide_false, decide_true, Nat.reduceEqDiff, Nat.reduceLT, Nat.reduceLeDiff, ↓ia, ↓ldK_is a2, dl, ↓g3, ↓gz, ↓g4, ↓gt, addF_nat (show 0 + 1 ≤ 9223372036854775807 by omega)]
 have k2 : ∀ R, T74_1 E D W R (.ptr w 0) t (.sl b 0 1 (.op 1)) (Int.ofNat 1) (Int.ofNat 1) σ4 = some (.tup [], σ4) := by
  intro R
  unfold T74_1
  simp -implicitDefEqProofs only [↓rP, rS, rQ, decide_false, decide_true, Nat.reduceEqDiff, Nat.reduceLT, Nat.reduceLeDiff, Nat.lt_irrefl]
 rw [k0, k1, k2]
end
end
noncomputable section
def vc (k n : Int) (b l : V) (r : Int) (m : V) : List V := [.int .i64 k, .int .i64 n, b, l, .int .i64 r, m]
def bitU (u : Int) (k : Nat) : Bool := !eqF (andF .i64 u (Int.ofNat k)) (Int.ofNat 0)
def plainB (u k n : Int) (nb nl : Nat) (r : Int) (nm : Nat) : Bool :=
 (((bitU u 1 || eqF n (Int.ofNat 0)) && (bitU u 2 || eqF (Int.ofNat nb) (Int.ofNat 0))) && (bitU u 4 || eqF (Int.ofNat nl) (Int.ofNat 0))) && (bitU u 8 || (eqF r (Int.ofNat 0) && eqF (Int.ofNat nm) (Int.ofNat 0)))
def SpPlain (F : List V → H → Ans) : Prop := ∀ (σ : H) (u k n r : Int) (b l m : V) (nb nl nm : Nat), Tidy σ → Len b nb → Len l nl → Len m nm →
 ∃ σ', F [.agg (vc k n b l r m), .int .i64 u] σ = some (.bool (plainB u k n nb nl r nm), σ') ∧ Fr Nowhere σ σ'
section
variable {E : List (Nat × Blk)} {D : Den} {W : DrawFn} {N : Nat}
theorem plain_F : SpPlain (F131 E D W N) := by
 intro σ u k n r b l m nb nl nm ht hb hl hm
 obtain ⟨σ1, e1, f1, a1, n1⟩ := mk_new ht (vc k n b l r m)
 refine ⟨σ1, ?_, f1⟩
 unfold vc at *
 show T131_0 E D W k n b l r m u σ = _
 unfold T131_0
 simp -implicitDefEqProofs only [cells_agg, cells_int, cells_ptr, allOne_cons, allOne_nil, one_int, one_bool, one_str, one_nils, one_sl, one_ptr, Bool.and_true, chk_t, nthK_zero, nthK_succ, subK_2, subK_4, subK_5, subK_6, subK_13, subK_con, rtInt_int, rtBool_bool, rtStr_str, rtPtr_ptr, rtAgg_agg, rtTup_tup, rtCons_cons, rtNil_nil, rtOne_nils, rtOne_pt, rtOne_sl, slenK_nils, slenK_sl, callK_some_, condK_true, condK_false, join_or, join_and, join_id, Nat.add_eq, Nat.zero_add, Bool.not_true, Bool.not_false, rC, hb.1, hl.1, hm.1, e1, ldK_is a1, ldnK_is a1, hb.2, hl.2, hm.2]
 rfl
theorem absent_F (hP : SpPlain (D 131)) {σ : H} (ht : Tidy σ) {k n r : Int} {b l m : V} {nb nl nm : Nat} (hb : Len b nb) (hl : Len l nl) (hm : Len m nm) :
  ∃ σ', F158 E D W N [.agg (vc k n b l r m)] σ = some (.bool (eqF k (Int.ofNat 0) && plainB (Int.ofNat 0) k n nb nl r nm), σ') ∧ Fr Nowhere σ σ' := by
 obtain ⟨σ1, e1, f1, a1, n1⟩ := mk_new ht (vc k n b l r m)
 obtain ⟨σ2, g2, f2⟩ := hP σ1 (Int.ofNat 0) k n r b l m nb nl nm f1.tidy hb hl hm
 unfold vc at e1 a1 g2 ⊢
 show ∃ σ', T158_0 E D W k n b l r m σ = _ ∧ _
 unfold T158_0
 simp -implicitDefEqProofs only [cells_agg, cells_int, cells_ptr, allOne_cons, allOne_nil, one_int, one_bool, one_str, one_nils, one_sl, one_ptr, Bool.and_true, chk_t, nthK_zero, nthK_succ, subK_2, subK_4, subK_5, subK_6, subK_13, subK_con, rtInt_int, rtBool_bool, rtStr_str, rtPtr_ptr, rtAgg_agg, rtTup_tup, rtCons_cons, rtNil_nil, rtOne_nils, rtOne_pt, rtOne_sl, slenK_nils, slenK_sl, callK_some_, condK_true, condK_false, join_or, join_and, join_id, Nat.add_eq, Nat.zero_add, Bool.not_true, Bool.not_false, rC, hb.1, hl.1, hm.1, e1, ldK_is a1, ldnK_is a1, g2]
 cases eqF k (Int.ofNat 0) with
 | true => exact ⟨σ2, rfl, f1.trans f2 (fun _ _ h => h)⟩
 | false => exact ⟨σ1, rfl, f1⟩
def withinB (h hl hh : Bool) (lo hi v : Int) : Bool := !h || ((!hl || leF lo v) && (!hh || leF v hi))
theorem within_F {σ : H} (ht : Tidy σ) (h hl hh mo : Bool) (lo hi v : Int) :
  ∃ σ', F132 E D W N [.agg [.bool h, .bool hl, .bool hh, .bool mo, .int .i64 lo, .int .i64 hi], .int .i64 v] σ = some (.bool (withinB h hl hh lo hi v), σ') ∧ Fr Nowhere σ σ' := by
 obtain ⟨σ1, e1, f1, a1, n1⟩ := mk_new ht [.bool h, .bool hl, .bool hh, .bool mo, .int .i64 lo, .int .i64 hi]
 refine ⟨σ1, ?_, f1⟩
 show T132_0 E D W h hl hh mo lo hi v σ = _
 unfold T132_0
 simp -implicitDefEqProofs only [cells_agg, cells_int, cells_ptr, allOne_cons, allOne_nil, one_int, one_bool, one_str, one_nils, one_sl, one_ptr, Bool.and_true, chk_t, nthK_zero, nthK_succ, subK_2, subK_4, subK_5, subK_6, subK_13, subK_con, rtInt_int, rtBool_bool, rtStr_str, rtPtr_ptr, rtAgg_agg, rtTup_tup, rtCons_cons, rtNil_nil, rtOne_nils, rtOne_pt, rtOne_sl, slenK_nils, slenK_sl, callK_some_, condK_true, condK_false, join_or, join_and, join_id, Nat.add_eq, Nat.zero_add, Bool.not_true, Bool.not_false, rC, e1, ldK_is a1, ldnK_is a1]
 rfl
structure Ty where
 kind : Int
 tags : V
 has : Bool
 hasLow : Bool
 hasHigh : Bool
 conMore : Bool
 low : Int
 high : Int
 items : V
 fields : V
 root : Int
 more : Bool
 of_ : Int
 oneT : tags.one = true
 oneI : items.one = true
 oneF : fields.one = true
def Ty.c (x : Ty) : List V := [.int .i64 x.kind, x.tags, .bool x.has, .bool x.hasLow, .bool x.hasHigh, .bool x.conMore, .int .i64 x.low, .int .i64 x.high, x.items, x.fields, .int .i64 x.root, .bool x.more, .int .i64 x.of_]
structure Fd where
 name : BS
 type : Int
 opt : Bool
 has : Bool
 d0 : Int
 d1 : Int
 d2 : V
 d3 : V
 d4 : Int
 d5 : V
 group : Int
 one2 : d2.one = true
 one3 : d3.one = true
 one5 : d5.one = true
def Fd.c (x : Fd) : List V := [.str x.name, .int .i64 x.type, .bool x.opt, .bool x.has, .int .i64 x.d0, .int .i64 x.d1, x.d2, x.d3, .int .i64 x.d4, x.d5, .int .i64 x.group]
def Cel (L : List V) (esz k : Nat) (c : List V) : Prop := k * esz + esz ≤ L.length ∧ (L.drop (k * esz)).take esz = c
theorem Cel.sub {L : List V} {esz k : Nat} {c : List V} (h : Cel L esz k c) (κ : List V → Ans) : subK L (0 + k * esz) esz κ = κ c := by
 rw [Nat.zero_add, subK_of h.1, h.2]
theorem Cel.get {L : List V} {esz k : Nat} {c : List V} (h : Cel L esz k c) {j : Nat} {v : V} (hj : c[j]? = some v) (κ : V → Ans) : nthK L (0 + k * esz + j) κ = κ v := by
 refine nthK_of ?_
 rw [nthF_eq, ← hj, ← h.2]
 obtain ⟨hlt, _⟩ := List.getElem?_eq_some_iff.1 hj
 have hc : c.length ≤ esz := by rw [← h.2]; simp only [List.length_take]; omega
 rw [List.getElem?_take, if_pos (by omega), List.getElem?_drop, Nat.zero_add]
structure Row (σ : H) (esz n : Nat) (v : V) (g : Nat → List V) : Prop where
 is : (n = 0 ∧ v = .nils) ∨ ∃ b c L, v = .sl b 0 n c ∧ Atc σ b L ∧ ∀ k, k < n → Cel L esz k (g k)
theorem Row.len {σ : H} {esz n : Nat} {v : V} {g : Nat → List V} (h : Row σ esz n v g) : Len v n := by
 rcases h.is with ⟨rfl, rfl⟩ | ⟨b, c, L, rfl, _⟩
 ·exact Len.nils
 ·exact Len.sl
theorem Row.fr {S : Nat → Prop} {σ σ' : H} {esz n : Nat} {v : V} {g : Nat → List V} (h : Row σ esz n v g) (f : Fr S σ σ') (ht : Tidy σ) (hS : ∀ b, Names v b → ¬ S b) : Row σ' esz n v g := by
 rcases h.is with h | ⟨b, c, L, rfl, ha, hc⟩
 ·exact ⟨.inl h⟩
 ·exact ⟨.inr ⟨b, c, L, rfl, f.at_ ha ht (hS b rfl), hc⟩⟩
theorem Row.fr0 {σ σ' : H} {esz n : Nat} {v : V} {g : Nat → List V} (h : Row σ esz n v g) (f : Fr Nowhere σ σ') (ht : Tidy σ) : Row σ' esz n v g := h.fr f ht (fun _ _ h => h)
theorem Row.all {E : List (Nat × Blk)} {σ : H} {esz n : Nat} {v : V} {g : Nat → List V} (h : Row σ esz n v g) {k : Nat} (hk : k < n) (κ : List V → Ans) :
  iaddrSK esz v (Int.ofNat k) (fun b o => ldnK E σ b o esz κ) = κ (g k) := by
 rcases h.is with ⟨rfl, rfl⟩ | ⟨b, c, L, rfl, ha, hc⟩
 ·omega
 ·rw [iaddrSK_lt hk]
  show ldnK E σ b (0 + k * esz) esz κ = _
  rw [ldnK_is ha, (hc k hk).sub]
theorem Row.one {E : List (Nat × Blk)} {σ : H} {esz n : Nat} {v : V} {g : Nat → List V} (h : Row σ esz n v g) {k : Nat} (hk : k < n) {j : Nat} {u : V} (hj : (g k)[j]? = some u) (κ : V → Ans) :
  iaddrSK esz v (Int.ofNat k) (fun b o => ldK E σ b (o + j) κ) = κ u := by
 rcases h.is with ⟨rfl, rfl⟩ | ⟨b, c, L, rfl, ha, hc⟩
 ·omega
 ·rw [iaddrSK_lt hk]
  show ldK E σ b (0 + k * esz + j) κ = _
  rw [ldK_is ha, (hc k hk).get hj]
theorem loose_F {σ : H} (ht : Tidy σ) (x : Ty) {nf : Nat} {fd : Nat → Fd} (hf : Row σ 11 nf x.fields fun k => (fd k).c) {k : Nat} (hk : k < nf) :
  ∃ σ', F231 E D W N [.agg x.c, .int .i64 (Int.ofNat k)] σ = some (.bool (((fd k).opt || (fd k).has) || leF x.root (Int.ofNat k)), σ') ∧ Fr Nowhere σ σ' := by
 obtain ⟨σ1, e1, f1, a1, n1⟩ := mk_new ht x.c
 refine ⟨σ1, ?_, f1⟩
 have hf1 := hf.fr0 f1 ht
 have r2 : ∀ κ, iaddrSK 11 x.fields (Int.ofNat k) (fun b o => ldK E σ1 b (o + 2) κ) = κ (.bool (fd k).opt) := fun κ => hf1.one hk rfl κ
 have r3 : ∀ κ, iaddrSK 11 x.fields (Int.ofNat k) (fun b o => ldK E σ1 b (o + 3) κ) = κ (.bool (fd k).has) := fun κ => hf1.one hk rfl κ
 unfold Ty.c at e1 a1
 show T231_0 E D W x.kind x.tags x.has x.hasLow x.hasHigh x.conMore x.low x.high x.items x.fields x.root x.more x.of_ (Int.ofNat k) σ = _
 unfold T231_0
 simp -implicitDefEqProofs only [cells_agg, cells_int, cells_ptr, allOne_cons, allOne_nil, one_int, one_bool, one_str, one_nils, one_sl, one_ptr, Bool.and_true, chk_t, nthK_zero, nthK_succ, subK_2, subK_4, subK_5, subK_6, subK_13, subK_con, rtInt_int, rtBool_bool, rtStr_str, rtPtr_ptr, rtAgg_agg, rtTup_tup, rtCons_cons, rtNil_nil, rtOne_nils, rtOne_pt, rtOne_sl, slenK_nils, slenK_sl, callK_some_, condK_true, condK_false, join_or, join_and, join_id, Nat.add_eq, Nat.zero_add, Bool.not_true, Bool.not_false, rC, x.oneT, x.oneI, x.oneF, e1, ldK_is a1, ldnK_is a1, r2, r3]
end
end
noncomputable section
def SpWithin (F : List V → H → Ans) : Prop := ∀ (σ : H) (h hl hh mo : Bool) (lo hi v : Int), Tidy σ → ∃ σ', F [.agg [.bool h, .bool hl, .bool hh, .bool mo, .int .i64 lo, .int .i64 hi], .int .i64 v] σ = some (.bool (withinB h hl hh lo hi v), σ') ∧ Fr Nowhere σ σ'
structure Ck (σ : H) (p nT : Nat) (ty : Nat → Ty) (nm : BS) (nv rv tv : V) (rest : List V) : Prop where
 at_ : Atc σ p ([.str nm, nv, rv, tv] ++ rest)
 n1 : nv.one = true
 r1 : rv.one = true
 t1 : tv.one = true
 row : Row σ 13 nT tv fun i => (ty i).c
 apart : ∀ b, Names tv b → b ≠ p
section
variable {E : List (Nat × Blk)} {D : Den} {W : DrawFn} {N : Nat} {σ σ' : H} {p nT : Nat} {ty : Nat → Ty} {nm : BS} {nv rv tv : V} {rest : List V}
theorem Ck.fr (h : Ck σ p nT ty nm nv rv tv rest) (f : Fr Nowhere σ σ') (ht : Tidy σ) : Ck σ' p nT ty nm nv rv tv rest := ⟨f.at_ h.at_ ht (fun h => h), h.n1, h.r1, h.t1, h.row.fr0 f ht, h.apart⟩
theorem Ck.types {E : List (Nat × Blk)} (h : Ck σ p nT ty nm nv rv tv rest) (κ : V → Ans) : ldK E σ p 3 κ = κ tv := by
 rw [ldK_is h.at_]; rfl
def intC (n : Int) : List V := vc (Int.ofNat 2) n .nils .nils (Int.ofNat 0) .nils
theorem fitsInt_F (hP : SpPlain (D 131)) (hW : SpWithin (D 132)) (ht : Tidy σ) (hc : Ck σ p nT ty nm nv rv tv rest) {i dp : Nat} (hi : i < nT) (hd : dp ≤ 17) (hk : (ty i).kind = Int.ofNat 2) {n : Int} (hw : ((ty i).conMore || withinB (ty i).has (ty i).hasLow (ty i).hasHigh (ty i).low (ty i).high n) = true) :
  ∃ σ', F65 E D W N [.ptr p 0, .int .i64 (Int.ofNat i), .agg (intC n), .int .i64 (Int.ofNat dp)] σ = some (.bool true, σ') ∧ Fr Nowhere σ σ' := by
 obtain ⟨σ1, e1, f1, a1, n1⟩ := mk_new ht (intC n)
 have c1 := hc.fr f1 ht
 obtain ⟨σ2, g2, f2⟩ := hP σ1 (Int.ofNat 1) (Int.ofNat 2) n (Int.ofNat 0) .nils .nils .nils 0 0 0 f1.tidy Len.nils Len.nils Len.nils
 have a2 := f2.at_ a1 f1.tidy (fun h => h)
 obtain ⟨σ3, g3, f3⟩ := hW σ2 (ty i).has (ty i).hasLow (ty i).hasHigh (ty i).conMore (ty i).low (ty i).high n f2.tidy
 have f12 := f1.trans f2 (fun _ _ h => h)
 have rd : ∀ κ, iaddrSK 13 tv (Int.ofNat i) (fun b o => ldnK E σ1 b o 13 κ) = κ (ty i).c := fun κ => c1.row.all hi κ
 have hp : plainB (Int.ofNat 1) (Int.ofNat 2) n 0 0 (Int.ofNat 0) 0 = true := rfl
 have hl := c1.row.len
 rw [hp] at g2
 unfold intC at e1 a1 a2 ⊢
 unfold vc at e1 a1 a2 g2 ⊢
 have d1 : decide (nT ≤ i) = false := decide_eq_false (by omega)
 have d2 : decide (17 < dp) = false := decide_eq_false (by omega)
 show ∃ σ', T65_0 E D W _ p 0 (Int.ofNat i) (Int.ofNat 2) n .nils .nils (Int.ofNat 0) .nils (Int.ofNat dp) σ = _ ∧ _
 unfold T65_0
 simp -implicitDefEqProofs only [↓rP, rS, rQ, decide_false, decide_true, Nat.reduceEqDiff, Nat.reduceLT, Nat.reduceLeDiff, Nat.not_lt_zero, ↓e1, ↓c1.types, ↓hl.2, d1, d2, ↓rd, Ty.c, hk, (ty i).oneT, (ty i).oneI, (ty i).oneF, ↓ldK_is a1, ↓ldnK_is a1, ↓g2, ↓ldK_is a2, ↓g3]
 cases hm : (ty i).conMore with
 | true => exact ⟨σ2, rfl, f12⟩
 | false =>
  rw [hm, Bool.false_or] at hw
  rw [hw]
  exact ⟨σ3, rfl, f12.trans f3 (fun _ _ h => h)⟩
end
end
noncomputable section
structure Vc where
 k : Int
 n : Int
 b : V
 l : V
 r : Int
 m : V
 oneB : b.one = true
 oneL : l.one = true
 oneM : m.one = true
def Vc.c (x : Vc) : List V := [.int .i64 x.k, .int .i64 x.n, x.b, x.l, .int .i64 x.r, x.m]
def Vc.int (n : Int) : Vc := ⟨Int.ofNat 2, n, .nils, .nils, Int.ofNat 0, .nils, rfl, rfl, rfl⟩
def Vc.abs : Vc := ⟨Int.ofNat 0, Int.ofNat 0, .nils, .nils, Int.ofNat 0, .nils, rfl, rfl, rfl⟩
def Vc.sq (l : V) (h : l.one = true) (r : Int) (m : V) (hm : m.one = true) : Vc := ⟨Int.ofNat 7, Int.ofNat 0, .nils, l, r, m, rfl, h, hm⟩
def findF (p : Nat → Bool) : Nat → Nat → Int
 | 0, _ => Int.negSucc 0
 | m + 1, i => if p i = true then Int.ofNat i else findF p m (i + 1)
def anyF (p : Nat → Bool) : Nat → Nat → Bool
 | 0, _ => false
 | m + 1, i => p i || anyF p m (i + 1)
theorem find_any (p : Nat → Bool) : ∀ m i, leF (Int.ofNat 0) (findF p m i) = anyF p m i
 | 0, i => rfl
 | m + 1, i => by
  unfold findF anyF
  by_cases h : p i = true
  ·rw [if_pos h, h]; simp only [leF_nat, Nat.zero_le, decide_true, Bool.true_or]
  ·rw [if_neg h, find_any p m (i + 1)]; simp only [Bool.not_eq_true] at h; rw [h, Bool.false_or]
theorem any_none {p : Nat → Bool} : ∀ {m i : Nat}, (∀ k, i ≤ k → k < i + m → p k = false) → anyF p m i = false
 | 0, i, _ => rfl
 | m + 1, i, h => by
  unfold anyF
  rw [h i (Nat.le_refl _) (by omega), any_none (fun k h1 h2 => h k (by omega) (by omega))]; rfl
section
variable {E : List (Nat × Blk)} {D : Den} {W : DrawFn} {N : Nat} {σ σ' : H} {p nT : Nat} {ty : Nat → Ty} {nm : BS} {nv rv tv : V} {rest : List V}
def Asks (D : Den) (σ : H) (f : Nat) (caps : List V) (n : Nat) (g : Nat → Vc) (q : Nat → Bool) : Prop := ∀ (σ1 : H) (k : Nat), k < n → Fr Nowhere σ σ1 → ∃ σ2, D f ([] ++ [.agg (g k).c] ++ caps) σ1 = some (.bool (q k), σ2) ∧ Fr Nowhere σ1 σ2
theorem ixV_F {v : V} {n : Nat} {g : Nat → Vc} {f : Nat} {caps : List V} {q : Nat → Bool} (ht : Tidy σ) (hr : Row σ 6 n v fun k => (g k).c) (hq : Asks D σ f caps n g q) (hN : n < N) (hn : n ≤ 1000000) :
  ∃ σ', F138 E D W N [v, .fn f [] caps] σ = some (.int .i64 (findF q n 0), σ') ∧ Fr Nowhere σ σ' := by
 have loop : ∀ (m n' i : Nat) (σ1 : H), i + m = n → m < n' → Fr Nowhere σ σ1 → ∃ σ2, L138_2 E D W N n' v (.fn f [] caps) (Int.ofNat n) (Int.ofNat i) σ1 = some (.int .i64 (findF q m i), σ2) ∧ Fr Nowhere σ σ2 := by
  intro m
  induction m with
  | zero =>
   intro n' i σ1 hi hn' f1
   obtain ⟨n', rfl⟩ : ∃ k, n' = k + 1 := ⟨n' - 1, by omega⟩
   refine ⟨σ1, ?_, f1⟩
   show T138_2 E D W _ _ v (.fn f [] caps) (Int.ofNat n) (Int.ofNat i) σ1 = _
   unfold T138_2
   rw [ltF_nat, decide_eq_false (by omega), condK_false]; rfl
  | succ m ih =>
   intro n' i σ1 hi hn' f1
   obtain ⟨n', rfl⟩ : ∃ k, n' = k + 1 := ⟨n' - 1, by omega⟩
   have hlt : i < n := by omega
   have r1 := hr.fr0 f1 ht
   have rd : ∀ κ, iaddrSK 6 v (Int.ofNat i) (fun b o => ldnK E σ1 b o 6 κ) = κ (g i).c := fun κ => r1.all hlt κ
   obtain ⟨σ2, g2, f2⟩ := hq σ1 i hlt f1
   have f12 := f1.trans f2 (fun _ _ h => h)
   show ∃ σ', T138_2 E D W _ (L138_2 E D W N n') v (.fn f [] caps) (Int.ofNat n) (Int.ofNat i) σ1 = _ ∧ _
   unfold T138_2
   have cv : ∀ κ, callvK D (.fn f [] caps) [.agg (g i).c] σ1 κ = κ (.bool (q i)) σ2 := fun κ => by
    show callK (D f ([] ++ [.agg (g i).c] ++ caps) σ1) κ = _
    rw [g2]; rfl
   unfold Vc.c at rd cv
   have d1 : decide (i < n) = true := decide_eq_true hlt
   simp -implicitDefEqProofs only [↓rP, rS, rQ, decide_false, decide_true, Nat.reduceEqDiff, Nat.reduceLT, Nat.reduceLeDiff, d1, ↓rd, (g i).oneB, (g i).oneL, (g i).oneM, ↓cv]
   unfold findF
   by_cases hqi : q i = true
   ·rw [hqi, condK_true, if_pos rfl]
    exact ⟨σ2, rfl, f12⟩
   ·rw [Bool.not_eq_true] at hqi
    rw [hqi, condK_false, if_neg (by simp), addF_nat (by omega)]
    exact ih n' (i + 1) σ2 (by omega) (by omega) f12
 obtain ⟨σ2, h1, h2⟩ := loop n N 0 σ (by omega) hN (Fr.refl ht)
 refine ⟨σ2, ?_, h2⟩
 show T138_0 E D W (L138_2 E D W N N) v (.fn f [] caps) σ = _
 unfold T138_0
 rw [hr.len.2]
 exact h1
def SpIx (F : List V → H → Ans) (D : Den) : Prop := ∀ {σ : H} {v : V} {n : Nat} {g : Nat → Vc} {f : Nat} {caps : List V} {q : Nat → Bool}, Tidy σ → Row σ 6 n v (fun k => (g k).c) → Asks D σ f caps n g q → n ≤ 10000 →
  ∃ σ', F [v, .fn f [] caps] σ = some (.int .i64 (findF q n 0), σ') ∧ Fr Nowhere σ σ'
def SpCf (F : List V → H → Ans) (D : Den) : Prop := ∀ {σ : H} {v : V} {n : Nat} {g : Nat → Vc} {f : Nat} {caps : List V} {q : Nat → Bool}, Tidy σ → Row σ 6 n v (fun k => (g k).c) → Asks D σ f caps n g q → n ≤ 10000 →
  ∃ σ', F [v, .fn f [] caps] σ = some (.bool (anyF q n 0), σ') ∧ Fr Nowhere σ σ'
theorem cfV_F {D' : Den} (hI : SpIx (D 138) D') : SpCf (F69 E D W N) D' := by
 intro σ v n g f caps q ht hr hq hn
 obtain ⟨σ2, h1, h2⟩ := hI ht hr hq hn
 refine ⟨σ2, ?_, h2⟩
 show T69_0 E D W v (.fn f [] caps) σ = _
 unfold T69_0
 rw [h1, callK_some_, rtInt_int, find_any]
def SpFit (F : List V → H → Ans) (nT : Nat) (ty : Nat → Ty) (i : Nat) (v : Vc) : Prop := ∀ (σ : H) (p dp : Nat) (nm : BS) (nv rv tv : V) (rest : List V), Tidy σ → Ck σ p nT ty nm nv rv tv rest → dp ≤ 17 →
 ∃ σ', F [.ptr p 0, .int .i64 (Int.ofNat i), .agg v.c, .int .i64 (Int.ofNat dp)] σ = some (.bool true, σ') ∧ Fr Nowhere σ σ'
end
end
noncomputable section
section
variable {E : List (Nat × Blk)} {D : Den} {W : DrawFn} {N : Nat} {σ σ' : H} {p nT : Nat} {ty : Nat → Ty} {nm : BS} {nv rv tv : V} {rest : List V}
theorem raws_F (ht : Tidy σ) (hc : Ck σ p nT ty nm nv rv tv rest) {i : Nat} (hi : i < nT) (v : Vc) (hm : v.m = .nils) (hr : v.r = Int.ofNat 0) :
  ∃ σ', F230 E D W N [.ptr p 0, .int .i64 (Int.ofNat i), .agg v.c] σ = some (.bool true, σ') ∧ Fr Nowhere σ σ' := by
 obtain ⟨σ1, e1, f1, a1, n1⟩ := mk_new ht v.c
 have c1 := hc.fr f1 ht
 have rd : ∀ κ, iaddrSK 13 tv (Int.ofNat i) (fun b o => ldnK E σ1 b o 13 κ) = κ (ty i).c := fun κ => c1.row.all hi κ
 refine ⟨σ1, ?_, f1⟩
 show T230_0 E D W _ p 0 (Int.ofNat i) v.k v.n v.b v.l v.r v.m σ = _
 unfold T230_0
 unfold Vc.c at e1 a1
 rw [hm, hr] at e1 a1
 rw [hm, hr]
 simp -implicitDefEqProofs only [↓rP, rS, rQ, decide_false, decide_true, Nat.reduceEqDiff, Nat.reduceLT, Nat.reduceLeDiff, v.oneB, v.oneL, ↓e1, ↓c1.types, ↓rd, Ty.c, (ty i).oneT, (ty i).oneI, (ty i).oneF, ↓ldK_is a1, ↓ldnK_is a1]
structure SeqTy (σ : H) (x : Ty) (nf : Nat) (fd : Nat → Fd) : Prop where
 kind : x.kind = Int.ofNat 7
 row : Row σ 11 nf x.fields fun k => (fd k).c
 small : nf ≤ 1000
theorem SeqTy.fr {x : Ty} {nf : Nat} {fd : Nat → Fd} (h : SeqTy σ x nf fd) (f : Fr Nowhere σ σ') (ht : Tidy σ) : SeqTy σ' x nf fd := ⟨h.kind, h.row.fr0 f ht, h.small⟩
structure Slots (σ : H) (sv : V) (S : List Nat) (bl : Nat → Nat) : Prop where
 row : Row σ 1 S.length sv fun j => [.sl (bl j) 0 1 (.ex 1)]
 at_ : ∀ j k, S[j]? = some k → Atc σ (bl j) [.int .i64 (Int.ofNat k)]
 one : sv.one = true
theorem Slots.fr {sv : V} {S : List Nat} {bl : Nat → Nat} (h : Slots σ sv S bl) (f : Fr Nowhere σ σ') (ht : Tidy σ) : Slots σ' sv S bl := ⟨h.row.fr0 f ht, fun j k hk => f.at_ (h.at_ j k hk) ht (fun h => h), h.one⟩
theorem Slots.rd {sv : V} {S : List Nat} {bl : Nat → Nat} (h : Slots σ sv S bl) {j k : Nat} (hj : S[j]? = some k) (κ : V → Ans) : iaddrSK 1 sv (Int.ofNat j) (fun b o => ldK E σ b o κ) = κ (.sl (bl j) 0 1 (.ex 1)) := by
 have hlt : j < S.length := by
  rcases Nat.lt_or_ge j S.length with h | h
  ·exact h
  ·rw [List.getElem?_eq_none h] at hj; cases hj
 have := h.row.one (E := E) hlt (j := 0) rfl κ
 exact this
def SpSlots (P : H → Prop) (S : List Nat) (i : Nat) (nm : BS) (nv rv tv : V) (F : List V → H → Ans) : Prop := ∀ (σ : H), Tidy σ → P σ → ∃ sv bl σ', F [.agg [.str nm, nv, rv, tv], .int .i64 (Int.ofNat i)] σ = some (sv, σ') ∧ Slots σ' sv S bl ∧ Fr Nowhere σ σ' ∧ (∀ b, Names sv b → σ.next ≤ b) ∧ ∀ j, j < S.length → σ.next ≤ bl j
theorem groups_F {P : H → Prop} (hPf : ∀ σ σ', Tidy σ → Fr Nowhere σ σ' → P σ → P σ') {S : List Nat} {i : Nat} (hS : SpSlots P S i nm nv rv tv (D 155)) (hN : S.length < N) (hNS : S.length ≤ 1000) (ht : Tidy σ) (hP : P σ) (hc : Ck σ p nT ty nm nv rv tv [.bool false]) (hi : i < nT) {nf : Nat} {fd : Nat → Fd} (hs : SeqTy σ (ty i) nf fd)
  (hf : ∀ k ∈ S, k < nf) (hg : ∀ k ∈ S, (fd k).group = Int.ofNat 0) (v : Vc) :
  ∃ σ', F233 E D W N [.ptr p 0, .int .i64 (Int.ofNat i), .agg v.c] σ = some (.bool true, σ') ∧ Fr Nowhere σ σ' := by
 obtain ⟨σ1, e1, f1, a1, n1⟩ := mk_new ht v.c
 have c1 := hc.fr f1 ht
 have rd : ∀ κ, iaddrSK 13 tv (Int.ofNat i) (fun b o => ldnK E σ1 b o 13 κ) = κ (ty i).c := fun κ => c1.row.all hi κ
 obtain ⟨sv, bl, σ2, g2, sl, f2, _⟩ := hS σ1 f1.tidy (hPf _ _ ht f1 hP)
 have f02 := f1.trans f2 (fun _ _ h => h)
 have hs2 := hs.fr f02 ht
 have pt := c1.at_
 refine ⟨σ2, ?_, f02⟩
 unfold Vc.c at e1 a1
 simp only [List.cons_append, List.nil_append] at pt
 have lsv := sl.row.len.2
 have key : ∀ K, T233_0 E D W K p 0 (Int.ofNat i) v.k v.n v.b v.l v.r v.m σ = K σ.next 0 sv (Int.ofNat S.length) (Int.ofNat 0) (ty i).kind (ty i).tags (ty i).has (ty i).hasLow (ty i).hasHigh (ty i).conMore (ty i).low (ty i).high (ty i).items (ty i).fields (ty i).root (ty i).more (ty i).of_ σ2 := by
  intro K
  unfold T233_0
  simp -implicitDefEqProofs only [↓rP, rS, rQ, decide_false, decide_true, Nat.reduceEqDiff, Nat.reduceLT, Nat.reduceLeDiff, c1.n1, c1.r1, c1.t1, v.oneB, v.oneL, v.oneM, ↓e1, ↓c1.types, ↓rd, Ty.c, (ty i).oneT, (ty i).oneI, (ty i).oneF, ↓ldnK_is pt, ↓g2, ↓rtOne_of sl.one, ↓lsv]
 have loop : ∀ (m n' j : Nat), j + m = S.length → m < n' → L233_2 E D W N n' σ.next 0 sv (Int.ofNat S.length) (Int.ofNat j) (ty i).kind (ty i).tags (ty i).has (ty i).hasLow (ty i).hasHigh (ty i).conMore (ty i).low (ty i).high (ty i).items (ty i).fields (ty i).root (ty i).more (ty i).of_ σ2 = some (.bool true, σ2) := by
  intro m
  induction m with
  | zero =>
   intro n' j hj hn'
   obtain ⟨n', rfl⟩ : ∃ k, n' = k + 1 := ⟨n' - 1, by omega⟩
   show T233_2 E D W (T233_1 E D W) _ _ σ.next 0 sv (Int.ofNat S.length) (Int.ofNat j) _ _ _ _ _ _ _ _ _ _ _ _ _ σ2 = _
   have k0 : ∀ K1 K3 K5, T233_2 E D W K1 K3 K5 σ.next 0 sv (Int.ofNat S.length) (Int.ofNat j) (ty i).kind (ty i).tags (ty i).has (ty i).hasLow (ty i).hasHigh (ty i).conMore (ty i).low (ty i).high (ty i).items (ty i).fields (ty i).root (ty i).more (ty i).of_ σ2 = K1 σ2 := by
    intro K1 K3 K5
    unfold T233_2
    rw [ltF_nat, decide_eq_false (by omega), condK_false]
   rw [k0]; rfl
  | succ m ih =>
   intro n' j hj hn'
   obtain ⟨n', rfl⟩ : ∃ k, n' = k + 1 := ⟨n' - 1, by omega⟩
   have hlt : j < S.length := by omega
   have hk : S[j]? = some S[j] := List.getElem?_eq_getElem hlt
   have hm : S[j] ∈ S := List.getElem_mem hlt
   have ab := sl.at_ j _ hk
   have r1 : ∀ κ, iaddrSK 1 sv (Int.ofNat j) (fun b o => ldK E σ2 b o κ) = κ (.sl (bl j) 0 1 (.ex 1)) := fun κ => sl.rd hk κ
   have ia : ∀ κ : Nat → Nat → Ans, iaddrSK 1 (.sl (bl j) 0 1 (.ex 1)) (Int.ofNat 0) κ = κ (bl j) 0 := fun κ => iaddrSK_lt (Nat.lt_succ_self 0)
   have rg : ∀ κ, iaddrSK 11 (ty i).fields (Int.ofNat S[j]) (fun b o => ldK E σ2 b (Nat.add o 10) κ) = κ (.int .i64 (Int.ofNat 0)) := fun κ => by
    have := hs2.row.one (E := E) (hf _ hm) (j := 10) (u := .int .i64 (fd S[j]).group) rfl κ
    rw [hg _ hm] at this
    exact this
   have d1 : decide (j < S.length) = true := decide_eq_true hlt
   have k1 : ∀ K1 K3 K5, T233_2 E D W K1 K3 K5 σ.next 0 sv (Int.ofNat S.length) (Int.ofNat j) (ty i).kind (ty i).tags (ty i).has (ty i).hasLow (ty i).hasHigh (ty i).conMore (ty i).low (ty i).high (ty i).items (ty i).fields (ty i).root (ty i).more (ty i).of_ σ2 = K3 σ.next 0 sv (Int.ofNat S.length) (Int.ofNat j) (ty i).kind (ty i).tags (ty i).has (ty i).hasLow (ty i).hasHigh (ty i).conMore (ty i).low (ty i).high (ty i).items (ty i).fields (ty i).root (ty i).more (ty i).of_ σ2 := by
    intro K1 K3 K5
    unfold T233_2
    simp -implicitDefEqProofs only [↓nthK_zero, ↓nthK_succ, ↓rtInt_int, ↓condK_ift, ltF_nat, eqF_nat, d1, ↓r1, ↓ia, ↓ldK_is ab, ↓rg, decide_true]
   refine (k1 _ _ _).trans ?_
   show L233_2 E D W N n' σ.next 0 sv (Int.ofNat S.length) (addF .i64 (Int.ofNat j) (Int.ofNat 1)) _ _ _ _ _ _ _ _ _ _ _ _ _ σ2 = _
   rw [addF_nat (by omega)]
   exact ih n' (j + 1) (by omega) (by omega)
 exact (key _).trans (loop S.length N 0 (by omega) hN)
end
end
noncomputable section
def SpAbs (F : List V → H → Ans) : Prop := ∀ {σ : H}, Tidy σ → ∀ (v : Vc) {nb nl nm : Nat}, Len v.b nb → Len v.l nl → Len v.m nm → ∃ σ', F [.agg v.c] σ = some (.bool (eqF v.k (Int.ofNat 0) && plainB (Int.ofNat 0) v.k v.n nb nl v.r nm), σ') ∧ Fr Nowhere σ σ'
def SpLoose (F : List V → H → Ans) : Prop := ∀ {σ : H}, Tidy σ → ∀ (x : Ty) {nf : Nat} {fd : Nat → Fd}, Row σ 11 nf x.fields (fun k => (fd k).c) → ∀ {k : Nat}, k < nf → ∃ σ', F [.agg x.c, .int .i64 (Int.ofNat k)] σ = some (.bool (((fd k).opt || (fd k).has) || leF x.root (Int.ofNat k)), σ') ∧ Fr Nowhere σ σ'
def FitF (F : List V → H → Ans) (nT : Nat) (ty : Nat → Ty) (f : Fd) (ls : Bool) (v : Vc) : Prop := (v = Vc.abs ∧ ls = true) ∨ (eqF v.k (Int.ofNat 0) = false ∧ f.has = false ∧ ∃ j, f.type = Int.ofNat j ∧ SpFit F nT ty j v)
section
variable {E : List (Nat × Blk)} {D : Den} {W : DrawFn} {N : Nat} {σ σ' : H} {p nT : Nat} {ty : Nat → Ty} {nm : BS} {nv rv tv : V} {rest : List V}
theorem fieldsStep0 (hA : SpAbs (D 158)) (hL : SpLoose (D 231)) {x : Ty} {nf : Nat} {fd : Nat → Fd} {g : Nat → Vc} {l : V} {r : Int} {mv : V} {i dp q k : Nat} (hv : g k = Vc.abs) (ho : (((fd k).opt || (fd k).has) || leF x.root (Int.ofNat k)) = true) (hlt : k < nf) (ht : Tidy σ) (hs : SeqTy σ x nf fd) (hr : Row σ 6 nf l (fun k => (g k).c)) (qa : Atc σ q [.int .i64 (Int.ofNat 7), .int .i64 (Int.ofNat 0), .nils, l, .int .i64 r, mv]) :
  ∃ σ2, Fr Nowhere σ σ2 ∧ ∀ K1 K3, T136_2 E D W K1 K3 p 0 (Int.ofNat i) (Int.ofNat dp) q 0 x.fields (Int.ofNat nf) (Int.ofNat k) x.kind x.tags x.has x.hasLow x.hasHigh x.conMore x.low x.high x.items x.fields x.root x.more x.of_ σ = K3 p 0 (Int.ofNat i) (Int.ofNat dp) q 0 x.fields (Int.ofNat nf) (Int.ofNat k) x.kind x.tags x.has x.hasLow x.hasHigh x.conMore x.low x.high x.items x.fields x.root x.more x.of_ σ2 := by
 have rf : ∀ κ, iaddrSK 11 x.fields (Int.ofNat k) (fun b o => ldnK E σ b o 11 κ) = κ (fd k).c := fun κ => hs.row.all hlt κ
 have rg : ∀ κ, iaddrSK 6 l (Int.ofNat k) (fun b o => ldnK E σ b o 6 κ) = κ (g k).c := fun κ => hr.all hlt κ
 have d1 : decide (k < nf) = true := decide_eq_true hlt
 obtain ⟨σ2, g2, f2⟩ := hA ht Vc.abs (nb := 0) (nl := 0) (nm := 0) Len.nils Len.nils Len.nils
 obtain ⟨σ3, g3, f3⟩ := hL f2.tidy x (hs.row.fr0 f2 ht) hlt
 rw [ho] at g3
 rw [show (eqF Vc.abs.k (Int.ofNat 0) && plainB (Int.ofNat 0) Vc.abs.k Vc.abs.n 0 0 Vc.abs.r 0) = true from rfl] at g2
 rw [hv] at rg
 unfold Vc.c Vc.abs at rg g2
 unfold Ty.c at g3
 unfold Fd.c at rf
 refine ⟨σ3, f2.trans f3 (fun _ _ h => h), fun K1 K3 => ?_⟩
 unfold T136_2
 simp -implicitDefEqProofs only [↓rP, rS, rQ, decide_false, decide_true, Nat.reduceEqDiff, Nat.reduceLT, Nat.reduceLeDiff, d1, ↓rf, (fd k).one2, (fd k).one3, (fd k).one5, ↓ldK_is qa, ↓rg, ↓g2, ↓g3]
theorem fieldsStep1 {x : Ty} {nf : Nat} {fd : Nat → Fd} {g : Nat → Vc} {l : V} {r : Int} {mv : V} {i dp q k j : Nat} (hv : eqF (g k).k (Int.ofNat 0) = false) (hh : (fd k).has = false) (hj : (fd k).type = Int.ofNat j) (hfit : SpFit (D 65) nT ty j (g k)) (hd : dp ≤ 16) (hlt : k < nf) (ht : Tidy σ) (hc : Ck σ p nT ty nm nv rv tv rest) (hs : SeqTy σ x nf fd) (hr : Row σ 6 nf l (fun k => (g k).c)) (qa : Atc σ q [.int .i64 (Int.ofNat 7), .int .i64 (Int.ofNat 0), .nils, l, .int .i64 r, mv]) :
  ∃ σ2, Fr Nowhere σ σ2 ∧ ∀ K1 K3, T136_2 E D W K1 K3 p 0 (Int.ofNat i) (Int.ofNat dp) q 0 x.fields (Int.ofNat nf) (Int.ofNat k) x.kind x.tags x.has x.hasLow x.hasHigh x.conMore x.low x.high x.items x.fields x.root x.more x.of_ σ = K3 p 0 (Int.ofNat i) (Int.ofNat dp) q 0 x.fields (Int.ofNat nf) (Int.ofNat k) x.kind x.tags x.has x.hasLow x.hasHigh x.conMore x.low x.high x.items x.fields x.root x.more x.of_ σ2 := by
 have rf : ∀ κ, iaddrSK 11 x.fields (Int.ofNat k) (fun b o => ldnK E σ b o 11 κ) = κ (fd k).c := fun κ => hs.row.all hlt κ
 have rg : ∀ κ, iaddrSK 6 l (Int.ofNat k) (fun b o => ldnK E σ b o 6 κ) = κ (g k).c := fun κ => hr.all hlt κ
 have d1 : decide (k < nf) = true := decide_eq_true hlt
 obtain ⟨σ2, g2, f2⟩ := hfit σ p (dp + 1) nm nv rv tv rest ht hc (by omega)
 unfold Vc.c at rg g2
 unfold Fd.c at rf
 refine ⟨σ2, f2, fun K1 K3 => ?_⟩
 unfold T136_2
 simp -implicitDefEqProofs only [↓rP, rS, rQ, decide_false, decide_true, Nat.reduceEqDiff, Nat.reduceLT, Nat.reduceLeDiff, d1, ↓rf, (fd k).one2, (fd k).one3, (fd k).one5, ↓ldK_is qa, ↓rg, (g k).oneB, (g k).oneL, (g k).oneM, hv, hh, hj, addF_nat (show dp + 1 ≤ 9223372036854775807 by omega), ↓g2]
theorem fieldsLoop (hA : SpAbs (D 158)) (hL : SpLoose (D 231)) {x : Ty} {nf : Nat} {fd : Nat → Fd} {g : Nat → Vc} {l : V} {hl : l.one = true} {r : Int} {mv : V} {hm : mv.one = true} {i dp q : Nat} (hF : ∀ k, k < nf → FitF (D 65) nT ty (fd k) (((fd k).opt || (fd k).has) || leF x.root (Int.ofNat k)) (g k)) (hd : dp ≤ 16) :
  ∀ (m n' k : Nat) (σ : H), k + m = nf → m < n' → Tidy σ → Ck σ p nT ty nm nv rv tv rest → SeqTy σ x nf fd → Row σ 6 nf l (fun k => (g k).c) → Atc σ q (Vc.sq l hl r mv hm).c →
   ∃ σ', L136_2 E D W N n' p 0 (Int.ofNat i) (Int.ofNat dp) q 0 x.fields (Int.ofNat nf) (Int.ofNat k) x.kind x.tags x.has x.hasLow x.hasHigh x.conMore x.low x.high x.items x.fields x.root x.more x.of_ σ = J136_1 E D W N p 0 (Int.ofNat i) q 0 σ' ∧ Fr Nowhere σ σ' := by
 intro m
 induction m with
 | zero =>
  intro n' k σ hk hn' ht hc hs hr hq
  obtain ⟨n', rfl⟩ : ∃ k, n' = k + 1 := ⟨n' - 1, by omega⟩
  refine ⟨σ, ?_, Fr.refl ht⟩
  show T136_2 E D W _ _ p 0 (Int.ofNat i) (Int.ofNat dp) q 0 x.fields (Int.ofNat nf) (Int.ofNat k) _ _ _ _ _ _ _ _ _ _ _ _ _ σ = _
  unfold T136_2
  rw [ltF_nat, decide_eq_false (by omega), condK_false]
 | succ m ih =>
  intro n' k σ hk hn' ht hc hs hr hq
  obtain ⟨n', rfl⟩ : ∃ k, n' = k + 1 := ⟨n' - 1, by omega⟩
  have hlt : k < nf := by omega
  have sm := hs.small
  have step : ∃ σ2, Fr Nowhere σ σ2 ∧ ∀ K1 K3, T136_2 E D W K1 K3 p 0 (Int.ofNat i) (Int.ofNat dp) q 0 x.fields (Int.ofNat nf) (Int.ofNat k) x.kind x.tags x.has x.hasLow x.hasHigh x.conMore x.low x.high x.items x.fields x.root x.more x.of_ σ = K3 p 0 (Int.ofNat i) (Int.ofNat dp) q 0 x.fields (Int.ofNat nf) (Int.ofNat k) x.kind x.tags x.has x.hasLow x.hasHigh x.conMore x.low x.high x.items x.fields x.root x.more x.of_ σ2 := by
   rcases hF k hlt with ⟨hv, ho⟩ | ⟨hv, hh, j, hj, hfit⟩
   ·exact fieldsStep0 hA hL hv ho hlt ht hs hr hq
   ·exact fieldsStep1 hv hh hj hfit hd hlt ht hc hs hr hq
  obtain ⟨σ2, f2, step⟩ := step
  obtain ⟨σ3, h3, f3⟩ := ih n' (k + 1) σ2 (by omega) (by omega) f2.tidy (hc.fr f2 ht) (hs.fr f2 ht) (hr.fr0 f2 ht) (f2.at_ hq ht (fun h => h))
  refine ⟨σ3, ?_, f2.trans f3 (fun _ _ h => h)⟩
  refine (step _ _).trans ?_
  show T136_3 E D W (L136_2 E D W N n') p 0 (Int.ofNat i) (Int.ofNat dp) q 0 x.fields (Int.ofNat nf) (Int.ofNat k) x.kind x.tags x.has x.hasLow x.hasHigh x.conMore x.low x.high x.items x.fields x.root x.more x.of_ σ2 = _
  unfold T136_3
  rw [addF_nat (by omega)]
  exact h3
def SpRaws (F : List V → H → Ans) : Prop := ∀ {σ : H} {p nT : Nat} {ty : Nat → Ty} {nm : BS} {nv rv tv : V} {rest : List V}, Tidy σ → Ck σ p nT ty nm nv rv tv rest → ∀ {i : Nat}, i < nT → ∀ (v : Vc), v.m = .nils → v.r = Int.ofNat 0 → ∃ σ', F [.ptr p 0, .int .i64 (Int.ofNat i), .agg v.c] σ = some (.bool true, σ') ∧ Fr Nowhere σ σ'
theorem fields_F (hP : SpPlain (D 131)) (hA : SpAbs (D 158)) (hL : SpLoose (D 231)) {nf : Nat} {fd : Nat → Fd} {g : Nat → Vc} {l : V} {hl : l.one = true} {r : Int} {mv : V} {hm : mv.one = true} {i dp : Nat} (hF : ∀ k, k < nf → FitF (D 65) nT ty (fd k) (((fd k).opt || (fd k).has) || leF (ty i).root (Int.ofNat k)) (g k)) (hd : dp ≤ 16) (hi : i < nT) (hN : nf < N)
  {nm' : Nat} (hml : Len mv nm')
  (hR : ∀ σ1, Tidy σ1 → Fr Nowhere σ σ1 → ∃ σ', D 230 [.ptr p 0, .int .i64 (Int.ofNat i), .agg (Vc.sq l hl r mv hm).c] σ1 = some (.bool true, σ') ∧ Fr Nowhere σ1 σ')
  (hG : ∀ σ1, Tidy σ1 → Fr Nowhere σ σ1 → ∃ σ', D 233 [.ptr p 0, .int .i64 (Int.ofNat i), .agg (Vc.sq l hl r mv hm).c] σ1 = some (.bool true, σ') ∧ Fr Nowhere σ1 σ')
  (ht : Tidy σ) (hc : Ck σ p nT ty nm nv rv tv [.bool false]) (hs : SeqTy σ (ty i) nf fd) (hr : Row σ 6 nf l (fun k => (g k).c)) :
  ∃ σ', F136 E D W N [.ptr p 0, .int .i64 (Int.ofNat i), .agg (Vc.sq l hl r mv hm).c, .int .i64 (Int.ofNat dp)] σ = some (.bool true, σ') ∧ Fr Nowhere σ σ' := by
 obtain ⟨σ1, e1, f1, a1, n1⟩ := mk_new ht (Vc.sq l hl r mv hm).c
 have c1 := hc.fr f1 ht
 have rd : ∀ κ, iaddrSK 13 tv (Int.ofNat i) (fun b o => ldnK E σ1 b o 13 κ) = κ (ty i).c := fun κ => c1.row.all hi κ
 obtain ⟨σ2, g2, f2⟩ := hP σ1 (Int.ofNat 12) (Int.ofNat 7) (Int.ofNat 0) r .nils l mv 0 nf nm' f1.tidy Len.nils hr.len hml
 rw [show plainB (Int.ofNat 12) (Int.ofNat 7) (Int.ofNat 0) 0 nf r nm' = true from rfl] at g2
 have f02 := f1.trans f2 (fun _ _ h => h)
 obtain ⟨σ3, g3, f3⟩ := hR σ2 f2.tidy f02
 have f03 := f02.trans f3 (fun _ _ h => h)
 have a2 : Atc σ2 σ.next [.int .i64 (Int.ofNat 7), .int .i64 (Int.ofNat 0), .nils, l, .int .i64 r, mv] := f2.at_ a1 f1.tidy (fun h => h)
 have a3 : Atc σ3 σ.next (Vc.sq l hl r mv hm).c := f3.at_ a2 f2.tidy (fun h => h)
 obtain ⟨σ4, h4, f4⟩ := fieldsLoop (W := W) (N := N) (i := i) (q := σ.next) hA hL hF hd nf N 0 σ3 (by omega) hN f3.tidy (hc.fr f03 ht) (hs.fr f03 ht) (hr.fr0 f03 ht) a3
 have f04 := f03.trans f4 (fun _ _ h => h)
 obtain ⟨σ5, g5, f5⟩ := hG σ4 f4.tidy f04
 have a4 : Atc σ4 σ.next [.int .i64 (Int.ofNat 7), .int .i64 (Int.ofNat 0), .nils, l, .int .i64 r, mv] := f4.at_ a3 f3.tidy (fun h => h)
 refine ⟨σ5, ?_, f04.trans f5 (fun _ _ h => h)⟩
 have hln := hr.len.2
 have hlf := hs.row.len.2
 have e1' : newB σ (.cells [.int .i64 (Int.ofNat 7), .int .i64 (Int.ofNat 0), .nils, l, .int .i64 r, mv]) = σ1 := e1
 have a1' : Atc σ1 σ.next [.int .i64 (Int.ofNat 7), .int .i64 (Int.ofNat 0), .nils, l, .int .i64 r, mv] := a1
 have g3' : D 230 [.ptr p 0, .int .i64 (Int.ofNat i), .agg [.int .i64 (Int.ofNat 7), .int .i64 (Int.ofNat 0), .nils, l, .int .i64 r, mv]] σ2 = some (.bool true, σ3) := g3
 have g5' : D 233 [.ptr p 0, .int .i64 (Int.ofNat i), .agg [.int .i64 (Int.ofNat 7), .int .i64 (Int.ofNat 0), .nils, l, .int .i64 r, mv]] σ4 = some (.bool true, σ5) := g5
 unfold vc at g2
 have d1 : decide (nf = nf) = true := decide_eq_true rfl
 have key : ∀ K, T136_0 E D W K p 0 (Int.ofNat i) (Int.ofNat 7) (Int.ofNat 0) .nils l r mv (Int.ofNat dp) σ = K p 0 (Int.ofNat i) (Int.ofNat dp) σ.next 0 (ty i).fields (Int.ofNat nf) (Int.ofNat 0) (ty i).kind (ty i).tags (ty i).has (ty i).hasLow (ty i).hasHigh (ty i).conMore (ty i).low (ty i).high (ty i).items (ty i).fields (ty i).root (ty i).more (ty i).of_ σ3 := by
  intro K
  unfold T136_0
  simp -implicitDefEqProofs only [↓rP, rS, rQ, decide_false, decide_true, Nat.reduceEqDiff, Nat.reduceLT, Nat.reduceLeDiff, hl, hm, ↓e1', ↓c1.types, ↓rd, Ty.c, (ty i).oneT, (ty i).oneI, (ty i).oneF, ↓ldK_is a1', ↓ldnK_is a1', ↓g2, ↓ldK_is a2, ↓ldnK_is a2, ↓hln, ↓hlf, d1, ↓g3']
 have tail : J136_1 E D W N p 0 (Int.ofNat i) σ.next 0 σ4 = some (.bool true, σ5) := by
  show T136_1 E D W p 0 (Int.ofNat i) σ.next 0 σ4 = _
  unfold T136_1
  simp -implicitDefEqProofs only [↓rP, rS, hl, hm, ↓ldnK_is a4, ↓g5']
 exact ((key _).trans h4).trans tail
end
end
noncomputable section
section
variable {E : List (Nat × Blk)} {D : Den} {W : DrawFn} {N : Nat} {σ σ' : H} {p nT : Nat} {ty : Nat → Ty} {nm : BS} {nv rv tv : V} {rest : List V}
theorem fitsSeq_F {i dp : Nat} {l : V} {hl : l.one = true} {r : Int} {mv : V} {hm : mv.one = true} {σ1 σ2 : H} (ht : Tidy σ) (hc : Ck σ p nT ty nm nv rv tv rest) (hi : i < nT) (hd : dp ≤ 17) (hk : (ty i).kind = Int.ofNat 7)
  (e1 : newB σ (.cells (Vc.sq l hl r mv hm).c) = σ1) (g : D 136 [.ptr p 0, .int .i64 (Int.ofNat i), .agg (Vc.sq l hl r mv hm).c, .int .i64 (Int.ofNat dp)] σ1 = some (.bool true, σ2)) :
  F65 E D W N [.ptr p 0, .int .i64 (Int.ofNat i), .agg (Vc.sq l hl r mv hm).c, .int .i64 (Int.ofNat dp)] σ = some (.bool true, σ2) := by
 obtain ⟨σ1', e1', f1, a1, n1⟩ := mk_new ht (Vc.sq l hl r mv hm).c
 obtain rfl : σ1' = σ1 := e1'.symm.trans e1
 have c1 := hc.fr f1 ht
 have rd : ∀ κ, iaddrSK 13 tv (Int.ofNat i) (fun b o => ldnK E σ1' b o 13 κ) = κ (ty i).c := fun κ => c1.row.all hi κ
 have hln := c1.row.len.2
 unfold Vc.c Vc.sq at e1 a1 g ⊢
 have d1 : decide (nT ≤ i) = false := decide_eq_false (by omega)
 have d2 : decide (17 < dp) = false := decide_eq_false (by omega)
 show T65_0 E D W (T65_2 E D W (T65_3 E D W (J65_1 E D W N))) p 0 (Int.ofNat i) (Int.ofNat 7) (Int.ofNat 0) .nils l r mv (Int.ofNat dp) σ = _
 unfold T65_0 T65_2 T65_3
 simp -implicitDefEqProofs only [↓rP, rS, rQ, decide_false, decide_true, Nat.reduceEqDiff, Nat.reduceLT, Nat.reduceLeDiff, Nat.not_lt_zero, hl, hm, ↓e1, ↓c1.types, ↓hln, d1, d2, ↓rd, Ty.c, hk, (ty i).oneT, (ty i).oneI, (ty i).oneF, ↓ldK_is a1, ↓ldnK_is a1, ↓g]
theorem count_F {v : Vc} {n : Nat} {g : Nat → Vc} (hN : n < N) (hn : n ≤ 10000) (ht : Tidy σ) (hr : Row σ 6 n v.l fun k => (g k).c)
  (hq : ∀ (σ1 : H) (k : Nat), k < n → Fr Nowhere σ σ1 → ∃ σ2, D 66 [.agg (g k).c] σ1 = some (.int .i64 (Int.ofNat 1), σ2) ∧ Fr Nowhere σ1 σ2) :
  ∃ σ', F66 E D W N [.agg v.c] σ = some (.int .i64 (Int.ofNat (1 + n)), σ') ∧ Fr Nowhere σ σ' := by
 have loop : ∀ (m n' i : Nat) (σ1 : H), i + m = n → m < n' → Fr Nowhere σ σ1 → ∃ σ2, L66_2 E D W N n' (Int.ofNat (1 + i)) v.l (Int.ofNat n) (Int.ofNat i) σ1 = some (.int .i64 (Int.ofNat (1 + n)), σ2) ∧ Fr Nowhere σ σ2 := by
  intro m
  induction m with
  | zero =>
   intro n' i σ1 hi hn' f1
   obtain ⟨n', rfl⟩ : ∃ k, n' = k + 1 := ⟨n' - 1, by omega⟩
   refine ⟨σ1, ?_, f1⟩
   show T66_2 E D W _ _ (Int.ofNat (1 + i)) v.l (Int.ofNat n) (Int.ofNat i) σ1 = _
   unfold T66_2
   rw [ltF_nat, decide_eq_false (by omega), condK_false]
   obtain rfl : i = n := by omega
   rfl
  | succ m ih =>
   intro n' i σ1 hi hn' f1
   obtain ⟨n', rfl⟩ : ∃ k, n' = k + 1 := ⟨n' - 1, by omega⟩
   have hlt : i < n := by omega
   have rd : ∀ κ, iaddrSK 6 v.l (Int.ofNat i) (fun b o => ldnK E σ1 b o 6 κ) = κ (g i).c := fun κ => (hr.fr0 f1 ht).all hlt κ
   obtain ⟨σ2, g2, f2⟩ := hq σ1 i hlt f1
   obtain ⟨σ3, g3, f3⟩ := ih n' (i + 1) σ2 (by omega) (by omega) (f1.trans f2 (fun _ _ h => h))
   refine ⟨σ3, ?_, f3⟩
   unfold Vc.c at rd g2
   have d1 : decide (i < n) = true := decide_eq_true hlt
   have key : ∀ K1 K2, T66_2 E D W K1 K2 (Int.ofNat (1 + i)) v.l (Int.ofNat n) (Int.ofNat i) σ1 = K2 (Int.ofNat (1 + (i + 1))) v.l (Int.ofNat n) (Int.ofNat (i + 1)) σ2 := by
    intro K1 K2
    unfold T66_2
    simp -implicitDefEqProofs only [↓rP, rS, rQ, decide_false, decide_true, Nat.reduceEqDiff, Nat.reduceLT, Nat.reduceLeDiff, d1, ↓rd, (g i).oneB, (g i).oneL, (g i).oneM, ↓g2, addF_nat (show 1 + i + 1 ≤ 9223372036854775807 by omega), addF_nat (show i + 1 ≤ 9223372036854775807 by omega), Nat.add_assoc]
   exact (key _ _).trans g3
 obtain ⟨σ1, e1, f1, a1, n1⟩ := mk_new ht v.c
 obtain ⟨σ2, h1, h2⟩ := loop n N 0 σ1 (by omega) hN f1
 refine ⟨σ2, ?_, h2⟩
 unfold Vc.c at e1 a1
 have hln := hr.len.2
 have key : ∀ K, T66_0 E D W K v.k v.n v.b v.l v.r v.m σ = K (Int.ofNat 1) v.l (Int.ofNat n) (Int.ofNat 0) σ1 := by
  intro K
  unfold T66_0
  simp -implicitDefEqProofs only [↓rP, rS, rQ, decide_false, decide_true, Nat.reduceEqDiff, Nat.reduceLT, Nat.reduceLeDiff, v.oneB, v.oneL, v.oneM, ↓e1, ↓hln, ↓ldK_is a1]
 exact (key _).trans h1
theorem rules_F {D' : Den} (hC : SpCf (D 69) D') {v : Vc} {n : Nat} {g : Nat → Vc} {ru : Int} (hn : n ≤ 10000) (hv : (eqF v.r (Int.ofNat 0) || eqF v.r ru) = true) (ht : Tidy σ) (hr : Row σ 6 n v.l fun k => (g k).c)
  (hq : ∀ (σ1 : H) (q k : Nat), k < n → Fr Nowhere σ σ1 → Atc σ1 q [.int .i64 ru] → ∃ σ2, D' 70 ([] ++ [.agg (g k).c] ++ [.ptr q 0]) σ1 = some (.bool false, σ2) ∧ Fr Nowhere σ1 σ2) :
  ∃ σ', F38 E D W N [.agg v.c, .int .i64 ru] σ = some (.bool true, σ') ∧ Fr Nowhere σ σ' := by
 obtain ⟨σ1, e1, f1, a1, n1⟩ := mk_new ht v.c
 obtain ⟨σ2, e2, f2, a2, n2⟩ := mk_new f1.tidy [.int .i64 ru]
 have f02 := f1.trans f2 (fun _ _ h => h)
 have a12 := f2.at_ a1 f1.tidy (fun h => h)
 obtain ⟨σ3, g3, f3⟩ := hC (σ := σ2) (caps := [.ptr σ1.next 0]) (f := 70) (q := fun _ => false) f02.tidy (hr.fr0 f02 ht) (fun σ9 k hk f9 => hq σ9 σ1.next k hk (f02.trans f9 (fun _ _ h => h)) (f9.at_ a2 f02.tidy (fun h => h))) hn
 rw [any_none (fun _ _ _ => rfl)] at g3
 refine ⟨σ3, ?_, f02.trans f3 (fun _ _ h => h)⟩
 unfold Vc.c at e1 a12
 show T38_0 E D W v.k v.n v.b v.l v.r v.m ru σ = _
 unfold T38_0
 cases h0 : eqF v.r (Int.ofNat 0) with
 | true => simp -implicitDefEqProofs only [↓rP, rS, ltF_nat, leF_nat, v.oneB, v.oneL, v.oneM, ↓e1, ↓e2, ↓ldK_is a12, ↓ldK_is a2, h0, ↓g3]
 | false =>
  rw [h0, Bool.false_or] at hv
  simp -implicitDefEqProofs only [↓rP, rS, ltF_nat, leF_nat, v.oneB, v.oneL, v.oneM, ↓e1, ↓e2, ↓ldK_is a12, ↓ldK_is a2, h0, hv, ↓g3]
theorem rules1_F {v : Vc} {ru : Int} {q : Nat} (hq : ∀ σ1 : H, Tidy σ1 → Fr Nowhere σ σ1 → ∃ σ2, D 38 [.agg v.c, .int .i64 ru] σ1 = some (.bool true, σ2) ∧ Fr Nowhere σ1 σ2) (ht : Tidy σ) (ha : Atc σ q [.int .i64 ru]) :
  ∃ σ', F70 E D W N ([] ++ [.agg v.c] ++ [.ptr q 0]) σ = some (.bool false, σ') ∧ Fr Nowhere σ σ' := by
 obtain ⟨σ1, e1, f1, a1, n1⟩ := mk_new ht v.c
 obtain ⟨σ2, g2, f2⟩ := hq σ1 f1.tidy f1
 have a2 := f1.at_ ha ht (fun h => h)
 refine ⟨σ2, ?_, f1.trans f2 (fun _ _ h => h)⟩
 unfold Vc.c at e1 a1 g2
 show T70_0 E D W v.k v.n v.b v.l v.r v.m (.ptr q 0) σ = _
 unfold T70_0
 simp -implicitDefEqProofs only [↓rP, rS, rQ, decide_false, decide_true, Nat.reduceEqDiff, Nat.reduceLT, Nat.reduceLeDiff, v.oneB, v.oneL, v.oneM, ↓e1, ↓ldnK_is a1, ↓ldK_is a2, ↓g2]
theorem Fits_F {i n : Nat} {v : Vc} (hn : n ≤ 5000) (ht : Tidy σ) (hr : Row σ 13 nT tv fun i => (ty i).c) (h1 : nv.one = true) (h2 : rv.one = true) (h3 : tv.one = true)
  (hF : ∀ (σ1 : H) (p : Nat), Tidy σ1 → Fr Nowhere σ σ1 → Ck σ1 p nT ty nm nv rv tv [.bool false] → ∃ σ2, D 65 [.ptr p 0, .int .i64 (Int.ofNat i), .agg v.c, .int .i64 (Int.ofNat 1)] σ1 = some (.bool true, σ2) ∧ Fr Nowhere σ1 σ2)
  (hC : ∀ σ1 : H, Tidy σ1 → Fr Nowhere σ σ1 → ∃ σ2, D 66 [.agg v.c] σ1 = some (.int .i64 (Int.ofNat n), σ2) ∧ Fr Nowhere σ1 σ2) :
  ∃ σ', F36 E D W N [.agg [.str nm, nv, rv, tv], .int .i64 (Int.ofNat i), .agg v.c] σ = some (.bool true, σ') ∧ Fr Nowhere σ σ' := by
 obtain ⟨σ1, e1, f1, a1, n1⟩ := mk_new ht [.str nm, nv, rv, tv]
 obtain ⟨σ2, e2, f2, a2, n2⟩ := mk_new f1.tidy v.c
 obtain ⟨σ3, e3, f3, a3, n3⟩ := mk_new f2.tidy [.str nm, nv, rv, tv, .bool false]
 have f02 := f1.trans f2 (fun _ _ h => h)
 have f03 := f02.trans f3 (fun _ _ h => h)
 have r3 := hr.fr0 f03 ht
 have c3 : Ck σ3 σ2.next nT ty nm nv rv tv [.bool false] := ⟨a3, h1, h2, h3, r3, fun b hb e => by
  subst e
  have lo := f02.le
  rcases hr.is with ⟨_, rfl⟩ | ⟨b, c, L, rfl, ha, _⟩
  ·exact hb
  ·have := ha.lt ht
   have hb : σ2.next = b := hb
   omega⟩
 obtain ⟨σ4, g4, f4⟩ := hF σ3 σ2.next f3.tidy f03 c3
 have f04 := f03.trans f4 (fun _ _ h => h)
 obtain ⟨σ5, g5, f5⟩ := hC σ4 f4.tidy f04
 have a12 := f2.at_ a1 f1.tidy (fun h => h)
 have a23 := f3.at_ a2 f2.tidy (fun h => h)
 have a24 := f4.at_ a23 f3.tidy (fun h => h)
 have d1 : decide (n ≤ 5000) = true := decide_eq_true hn
 refine ⟨σ5, ?_, f04.trans f5 (fun _ _ h => h)⟩
 unfold Vc.c at e2 a2 a23 a24 g4 g5
 show T36_0 E D W nm nv rv tv (Int.ofNat i) v.k v.n v.b v.l v.r v.m σ = _
 unfold T36_0
 simp -implicitDefEqProofs only [↓rP, rS, rQ, decide_false, decide_true, Nat.reduceEqDiff, Nat.reduceLT, Nat.reduceLeDiff, h1, h2, h3, v.oneB, v.oneL, v.oneM, ↓e1, ↓e2, ↓e3, ↓ldnK_is a12, ↓ldnK_is a23, ↓ldnK_is a24, ↓g4, ↓g5, d1]
end
end
noncomputable section
structure Wk (σ0 σ : H) (eb w : Nat) (u : V) (cs : List V) (L : List Nat) : Prop where
 pw : Pw σ w u L
 f : Fr Nowhere σ0 σ
 lo : ∀ b, Own1 w u b → σ0.next ≤ b
 e : Atc σ eb (.ptr w 0 :: cs)
 eo : Off σ w u eb
structure Tb (σ : H) (nT : Nat) (ty : Nat → Ty) (nv rv tv : V) : Prop where
 row : Row σ 13 nT tv fun i => (ty i).c
 n1 : nv.one = true
 r1 : rv.one = true
 t1 : tv.one = true
section
variable {σ0 σ σ1 : H} {eb w : Nat} {u u1 : V} {cs : List V} {L L1 : List Nat} {nT : Nat} {ty : Nat → Ty} {nm : BS} {nv rv tv : V}
theorem Tb.fr (h : Tb σ nT ty nv rv tv) (f : Fr Nowhere σ σ1) (ht : Tidy σ) : Tb σ1 nT ty nv rv tv := ⟨h.row.fr0 f ht, h.n1, h.r1, h.t1⟩
theorem Wk.tidy (k : Wk σ0 σ eb w u cs L) : Tidy σ := k.f.tidy
theorem Wk.step (k : Wk σ0 σ eb w u cs L) (s : Pst σ w u σ1 u1 L1) : Wk σ0 σ1 eb w u1 cs L1 := by
 refine ⟨s.wr, k.f.trans s.f (fun b hb hn => ?_), fun b hb => ?_, s.at_ k.tidy k.eo k.e, s.off k.eo⟩
 ·have := k.lo b hn; omega
 ·rcases hb with hb | hb
  ·exact k.lo b (.inl hb)
  ·rcases s.g b hb with h | h
   ·exact k.lo b (.inr h)
   ·exact Nat.le_trans k.f.le h
theorem Wk.fr (k : Wk σ0 σ eb w u cs L) (f : Fr Nowhere σ σ1) : Wk σ0 σ1 eb w u cs L :=
 ⟨k.pw.fr f k.tidy, k.f.trans f (fun _ _ h => h), k.lo, f.at_ k.e k.tidy (fun h => h), k.eo.fr f⟩
theorem Wk.still (k : Wk σ0 σ eb w u cs L) (s : Pst σ w u σ1 u1 L1) : Fr Nowhere σ0 σ1 := (k.step s).f
theorem Wk.enc {E : List (Nat × Blk)} (k : Wk σ0 σ eb w u cs L) (κ : V → Ans) : ldK E σ eb 0 κ = κ (.ptr w 0) := (ldK_is k.e).trans rfl
end
def SpSpan (c : List V) (n : Nat) (F : List V → H → Ans) : Prop := ∀ (σ : H), Tidy σ → ∃ σ', F [.agg c] σ = some (.tup [.int .u64 (Int.ofNat n), .bool true], σ') ∧ Fr Nowhere σ σ'
def SpWidth (n k : Nat) (F : List V → H → Ans) : Prop := ∀ (σ : H), Tidy σ → ∃ σ', F [.int .u64 (Int.ofNat n)] σ = some (.int .i64 (Int.ofNat k), σ') ∧ Fr Nowhere σ σ'
def SpBetw (n k : Nat) (F : List V → H → Ans) : Prop := ∀ (σ : H) (w : Nat) (u : V) (L : List Nat) (v : Nat), Pw σ w u L → Tidy σ → L.length < 8000000 → v ≤ n →
 ∃ u' σ', F [.ptr w 0, .int .u64 (Int.ofNat v), .int .u64 (Int.ofNat n)] σ = some (.tup [], σ') ∧ Pst σ w u σ' u' (L ++ bitsOf k v)
def con7 : List V := [.bool true, .bool true, .bool true, .bool false, .int .i64 (Int.ofNat 0), .int .i64 (Int.ofNat 7)]
def SpEInt (F : List V → H → Ans) : Prop := ∀ (σ0 σ : H) (eb w : Nat) (u : V) (cs : List V) (L : List Nat) (v : Nat), Wk σ0 σ eb w u cs L → L.length < 8000000 → v ≤ 7 →
 ∃ u' σ', F [.ptr eb 0, .agg con7, .int .i64 (Int.ofNat v)] σ = some (.tup [], σ') ∧ Pst σ w u σ' u' (L ++ bitsOf 3 v)
section
variable {E : List (Nat × Blk)} {D : Den} {W : DrawFn} {N : Nat}
theorem betw_F {n k : Nat} (hW : SpWidth n k (D 237)) (hB : SpWWBits (D 139)) (hn : n ≤ 4294967295) (hk : k ≤ 32) : SpBetw n k (F141 E D W N) := by
 intro σ w u L v h ht hl hv
 obtain ⟨σ1, g1, f1⟩ := hW σ ht
 obtain ⟨u2, σ2, g2, s2⟩ := hB σ1 w u L v k (h.fr f1 ht) f1.tidy hl (by omega) hk
 refine ⟨u2, σ2, ?_, Pst.behind f1 s2⟩
 have m : minF (Int.ofNat v) (Int.ofNat n) = Int.ofNat v := minF_le hv
 show T141_0 E D W (.ptr w 0) (Int.ofNat v) (Int.ofNat n) σ = _
 unfold T141_0
 simp -implicitDefEqProofs only [↓rP, rS, ↓g1, m, ↓g2]
theorem eint_F (hI : SpWithin (D 132)) (hS : SpSpan con7 7 (D 140)) (hB : SpBetw 7 3 (D 141)) : SpEInt (F72 E D W N) := by
 intro σ0 σ eb w u cs L v k hl hv
 obtain ⟨σ1, e1, f1, a1, n1⟩ := mk_new k.tidy con7
 obtain ⟨σ2, g2, f2⟩ := hI σ1 true true true false (Int.ofNat 0) (Int.ofNat 7) (Int.ofNat v) f1.tidy
 rw [show withinB true true true (Int.ofNat 0) (Int.ofNat 7) (Int.ofNat v) = true by
  unfold withinB; rw [leF_nat, leF_nat, decide_eq_true (Nat.zero_le v), decide_eq_true hv]; rfl] at g2
 have a2 := f2.at_ a1 f1.tidy (fun h => h)
 obtain ⟨σ3, g3, f3⟩ := hS σ2 f2.tidy
 have a3 := f3.at_ a2 f2.tidy (fun h => h)
 have f03 := (f1.trans f2 (fun _ _ h => h)).trans f3 (fun _ _ h => h)
 have k3 := k.fr f03
 obtain ⟨u4, σ4, g4, s4⟩ := hB σ3 w u L v k3.pw k3.tidy hl hv
 refine ⟨u4, σ4, ?_, Pst.behind f03 s4⟩
 have e := k3.enc (E := E)
 have ew : wrapF .u64 (Int.ofNat v) = Int.ofNat v := wrapF_nat (by rw [maxN_u64]; omega)
 have e0 : wrapF .u64 (Int.ofNat 0) = Int.ofNat 0 := rfl
 have es : subF .u64 (Int.ofNat v) (Int.ofNat 0) = Int.ofNat v := by
  unfold subF
  rw [show Int.sub (Int.ofNat v) (Int.ofNat 0) = Int.ofNat v from Int.sub_zero _, ew]
 unfold con7 at e1 a1 a2 a3 g3 ⊢
 show T72_0 E D W (T72_1 E D W) eb 0 true true true false (Int.ofNat 0) (Int.ofNat 7) (Int.ofNat v) σ = _
 unfold T72_0 T72_1
 simp -implicitDefEqProofs only [↓rP, rS, ↓e1, ↓ldnK_is a1, ↓g2, ↓ldK_is a2, ↓ldnK_is a2, ↓g3, ↓e, ↓ldK_is a3, ew, e0, es, ↓g4]
def SpVal (F : List V → H → Ans) (nT : Nat) (ty : Nat → Ty) (i : Nat) (v : Vc) (X : List Nat) : Prop := ∀ (σ0 σ : H) (eb w : Nat) (u : V) (L : List Nat) (nm : BS) (nv rv tv : V), Tidy σ0 → Tb σ0 nT ty nv rv tv → Wk σ0 σ eb w u [.str nm, nv, rv, tv] L → L.length < 1000000 →
 ∃ u' σ', F [.ptr eb 0, .int .i64 (Int.ofNat i), .agg v.c] σ = some (.tup [], σ') ∧ Pst σ w u σ' u' (L ++ X)
def Ty.con (x : Ty) : List V := [.bool x.has, .bool x.hasLow, .bool x.hasHigh, .bool x.conMore, .int .i64 x.low, .int .i64 x.high]
theorem vint_F (hE : SpEInt (D 72)) {nT : Nat} {ty : Nat → Ty} {i : Nat} (hi : i < nT) (hk : (ty i).kind = Int.ofNat 2) (hc : (ty i).con = con7) {v : Nat} (hv : v ≤ 7) :
  SpVal (F39 E D W N) nT ty i (Vc.int (Int.ofNat v)) (bitsOf 3 v) := by
 intro σ0 σ eb w u L nm nv rv tv ht0 T k hl
 obtain ⟨σ1, e1, f1, a1, n1⟩ := mk_new k.tidy [.ptr eb 0]
 obtain ⟨σ2, e2, f2, a2, n2⟩ := mk_new f1.tidy (intC (Int.ofNat v))
 obtain ⟨σ3, e3, f3, a3, n3⟩ := mk_new f2.tidy [.int .i64 (Int.ofNat 0), .nils, .bool false, .bool false, .bool false, .bool false, .int .i64 (Int.ofNat 0), .int .i64 (Int.ofNat 0), .nils, .nils, .int .i64 (Int.ofNat 0), .bool false, .int .i64 (Int.ofNat 0)]
 obtain ⟨σ4, e4, f4, a4⟩ := mk_set f3.tidy a3 (ty i).c
 have f02 := f1.trans f2 (fun _ _ h => h)
 have l2 := f02.le
 have f24 : Fr Nowhere σ2 σ4 := f3.trans f4 (fun b hb e => by omega)
 have f04 := f02.trans f24 (fun _ _ h => h)
 have k2 := k.fr f02
 have k4 := k.fr f04
 obtain ⟨u5, σ5, g5, s5⟩ := hE σ0 σ4 eb w u _ L v k4 (by omega) hv
 refine ⟨u5, σ5, ?_, Pst.behind f04 s5⟩
 have a12 := f2.at_ a1 f1.tidy (fun h => h)
 have a14 := f24.at_ a12 f2.tidy (fun h => h)
 have a24 := f24.at_ a2 f2.tidy (fun h => h)
 have rd : ∀ κ, iaddrSK 13 tv (Int.ofNat i) (fun b o => ldnK E σ2 b o 13 κ) = κ (ty i).c := fun κ => (T.row.fr0 k2.f ht0).all hi κ
 have st : ∀ κ : H → Ans, stK 13 σ2.next 0 (.agg (ty i).c) σ3 κ = κ σ4 := fun κ => by
  rw [stK_at a3 (by unfold Ty.c; simp [cells_agg, allOne_cons, allOne_nil, one_int, one_bool, (ty i).oneT, (ty i).oneI, (ty i).oneF])]
  show κ (setF σ3 σ2.next (.cells (ty i).c)) = _
  rw [e4]
 have ee := k2.e
 unfold Ty.con con7 at hc
 simp only [List.cons.injEq, V.bool.injEq, V.int.injEq, true_and, and_true] at hc
 obtain ⟨h1, h2, h3, h4, h5, h6⟩ := hc
 unfold con7 at g5
 unfold Ty.c at rd st a4
 unfold intC vc at e2 a2 a24
 show T39_0 E D W _ (.ptr eb 0) (Int.ofNat i) (Int.ofNat 2) (Int.ofNat v) .nils .nils (Int.ofNat 0) .nils σ = _
 unfold T39_0
 simp -implicitDefEqProofs only [↓rP, rS, rQ, decide_false, decide_true, Nat.reduceEqDiff, Nat.reduceLT, Nat.reduceLeDiff, ↓e1, ↓e2, ↓ldK_is a12, ↓ldK_is ee, ↓rd, ↓e3, ↓st, ↓ldK_is a4, ↓ldnK_is a4, hk, h1, h2, h3, h4, h5, h6, ↓ldK_is a14, ↓ldK_is a24, ↓g5]
end
end
noncomputable section
def Nw (σ0 σ : H) (esz k : Nat) (v : V) (l : List V) : Prop := Dst σ esz k v l ∧ ∀ b, Names v b → σ0.next ≤ b
section
variable {E : List (Nat × Blk)} {σ0 σ σ1 : H} {esz k n : Nat} {v x : V} {l m : List V}
theorem Nw.nil (σ0 σ : H) (esz : Nat) : Nw σ0 σ esz 0 .nils [] := ⟨Dst.nil σ esz, fun _ h => h.elim⟩
theorem Nw.fr (h : Nw σ0 σ esz k v l) (f : Fr Nowhere σ σ1) (ht : Tidy σ) : Nw σ0 σ1 esz k v l := ⟨h.1.fr f ht (fun _ _ h => h), h.2⟩
theorem nw_app {bytes : Nat} (h : Nw σ0 σ esz k v l) (f0 : Fr Nowhere σ0 σ) (hx : Src σ esz n x m) (ho : allOne m = true) (hg : growable (k + n) bytes = true) :
  ∃ u σ', (∀ κ : V → H → Ans, appK E esz bytes v x σ κ = κ u σ') ∧ Nw σ0 σ' esz (k + n) u (l ++ m) ∧ Fr Nowhere σ0 σ' := by
 obtain ⟨u, σ', g, d, nm, f⟩ := app_all (E := E) h.1 f0.tidy hx ho hg
 exact ⟨u, σ', g, ⟨d, fun b hb => (nm b hb).elim (h.2 b) (fun h' => Nat.le_trans f0.le h')⟩, f0.trans f fun b hb hn => by have := h.2 b hn; omega⟩
theorem src_at {c : V} (h : Src σ 1 n x m) (hk : m[k]? = some c) (κ : V → Ans) : iaddrSK 1 x (Int.ofNat k) (fun b o => ldK E σ b o κ) = κ c := by
 have hm := h.length
 have hlt : k < n := by
  rcases Nat.lt_or_ge k m.length with h' | h'
  ·omega
  ·rw [List.getElem?_eq_none h'] at hk; cases hk
 rcases h with ⟨h0, _, _⟩ | ⟨b, o, cp, L, rfl, ha, hl, hm'⟩
 ·omega
 ·rw [iaddrSK_lt hlt]
  rw [hm', List.getElem?_take, if_pos (by omega), List.getElem?_drop] at hk
  refine ldK_get ha ?_
  show L[o + k * 1]? = _
  rw [Nat.mul_one]; exact hk
end
def SpAb (F : List V → H → Ans) (n : Nat) (g : Nat → Vc) (ab : Nat → Bool) : Prop := ∀ (σ : H) (k : Nat), k < n → Tidy σ → ∃ σ', F [.agg (g k).c] σ = some (.bool (ab k), σ') ∧ Fr Nowhere σ σ'
def bls (l : List Bool) : List V := l.map V.bool
def fstT : List Bool → Nat → Int
 | [], _ => Int.negSucc 0
 | true :: _, i => Int.ofNat i
 | false :: l, i => fstT l (i + 1)
theorem fstT_any : ∀ (l : List Bool) (i : Nat), leF (Int.ofNat 0) (fstT l i) = l.any id
 | [], _ => rfl
 | true :: _, i => by show leF (Int.ofNat 0) (Int.ofNat i) = true; rw [leF_nat]; exact decide_eq_true (Nat.zero_le _)
 | false :: l, i => fstT_any l (i + 1)
section
variable {E : List (Nat × Blk)} {D : Den} {W : DrawFn} {N : Nat}
theorem ixB_F {σ : H} {v : V} {B : List Bool} (hx : Src σ 1 B.length v (bls B)) (hN : B.length < N) (hb : B.length ≤ 1000000) :
  F249 E D W N [v, .bool true] σ = some (.int .i64 (fstT B 0), σ) := by
 have loop : ∀ (m n' j : Nat), j + m = B.length → m < n' → L249_2 E D W N n' v true (Int.ofNat B.length) (Int.ofNat j) σ = some (.int .i64 (fstT (B.drop j) j), σ) := by
  intro m
  induction m with
  | zero =>
   intro n' j hj hn'
   obtain ⟨n', rfl⟩ : ∃ k, n' = k + 1 := ⟨n' - 1, by omega⟩
   show T249_2 E D W (T249_1 E D W) _ v true (Int.ofNat B.length) (Int.ofNat j) σ = _
   have k0 : ∀ K1 R, T249_2 E D W K1 R v true (Int.ofNat B.length) (Int.ofNat j) σ = K1 σ := by
    intro K1 R
    unfold T249_2
    rw [ltF_nat, decide_eq_false (by omega), condK_false]
   rw [k0, List.drop_eq_nil_of_le (by omega)]; rfl
  | succ m ih =>
   intro n' j hj hn'
   obtain ⟨n', rfl⟩ : ∃ k, n' = k + 1 := ⟨n' - 1, by omega⟩
   have hlt : j < B.length := by omega
   have d1 : decide (j < B.length) = true := decide_eq_true hlt
   have rd : ∀ κ, iaddrSK 1 v (Int.ofNat j) (fun b o => ldK E σ b o κ) = κ (.bool B[j]) := fun κ => src_at hx (by unfold bls; rw [List.getElem?_map, List.getElem?_eq_getElem hlt]; rfl) κ
   rw [List.drop_eq_getElem_cons hlt]
   cases hB : B[j] with
   | true =>
    rw [hB] at rd
    have k1 : ∀ K1 R, T249_2 E D W K1 R v true (Int.ofNat B.length) (Int.ofNat j) σ = some (.int .i64 (Int.ofNat j), σ) := by
     intro K1 R
     unfold T249_2
     simp -implicitDefEqProofs only [↓rP, rS, rQ, decide_false, decide_true, Nat.reduceEqDiff, Nat.reduceLT, Nat.reduceLeDiff, d1, ↓rd]
     rfl
    exact k1 _ _
   | false =>
    rw [hB] at rd
    have k1 : ∀ K1 R, T249_2 E D W K1 R v true (Int.ofNat B.length) (Int.ofNat j) σ = R v true (Int.ofNat B.length) (Int.ofNat (j + 1)) σ := by
     intro K1 R
     unfold T249_2
     simp -implicitDefEqProofs only [↓rP, rS, rQ, decide_false, decide_true, Nat.reduceEqDiff, Nat.reduceLT, Nat.reduceLeDiff, d1, ↓rd, addF_nat (show j + 1 ≤ 9223372036854775807 by omega)]
     rfl
    exact (k1 _ _).trans (ih n' (j + 1) (by omega) (by omega))
 have h0 := hx.slen (κ := fun n => L249_2 E D W N N v true (Int.ofNat n) (Int.ofNat 0) σ)
 have := loop B.length N 0 (by omega) hN
 rw [List.drop_zero] at this
 exact h0.trans this
def SpIxB (F : List V → H → Ans) : Prop := ∀ (σ : H) (v : V) (B : List Bool), Src σ 1 B.length v (bls B) → B.length ≤ 1000 → F [v, .bool true] σ = some (.int .i64 (fstT B 0), σ)
def SpCB (F : List V → H → Ans) : Prop := ∀ (σ : H) (v : V) (B : List Bool), Src σ 1 B.length v (bls B) → B.length ≤ 1000 → F [v, .bool true] σ = some (.bool (B.any id), σ)
theorem cB_F (h : SpIxB (D 249)) : SpCB (F159 E D W N) := by
 intro σ v B hx hb
 have g := h σ v B hx hb
 show T159_0 E D W v true σ = _
 unfold T159_0
 simp -implicitDefEqProofs only [↓rP, rS, ↓g]
 rw [fstT_any]
def SpCfI (F : List V → H → Ans) (D : Den) : Prop := ∀ (σ : H) (b k f : Nat) (caps : List V) (r : Bool), Atc σ b [.int .i64 (Int.ofNat k)] → (∃ σ', D f ([] ++ [.int .i64 (Int.ofNat k)] ++ caps) σ = some (.bool r, σ') ∧ Fr Nowhere σ σ') →
 ∃ σ', F [.sl b 0 1 (.ex 1), .fn f [] caps] σ = some (.bool r, σ') ∧ Fr Nowhere σ σ'
def SpIxI (F : List V → H → Ans) (D : Den) : Prop := ∀ (σ : H) (b k f : Nat) (caps : List V) (r : Bool), Atc σ b [.int .i64 (Int.ofNat k)] → (∃ σ', D f ([] ++ [.int .i64 (Int.ofNat k)] ++ caps) σ = some (.bool r, σ') ∧ Fr Nowhere σ σ') →
 ∃ σ', F [.sl b 0 1 (.ex 1), .fn f [] caps] σ = some (.int .i64 (if r = true then Int.ofNat 0 else Int.negSucc 0), σ') ∧ Fr Nowhere σ σ'
theorem ixI_F (hN : 3 < N) : SpIxI (F248 E D W N) D := by
 intro σ b k f caps r ab ⟨σ1, g1, f1⟩
 obtain ⟨M, rfl⟩ : ∃ k, N = k + 2 := ⟨N - 2, by omega⟩
 refine ⟨σ1, ?_, f1⟩
 have ia : ∀ κ : Nat → Nat → Ans, iaddrSK 1 (.sl b 0 1 (.ex 1)) (Int.ofNat 0) κ = κ b 0 := fun κ => iaddrSK_lt (Nat.lt_succ_self 0)
 have cv : ∀ κ : V → H → Ans, callvK D (.fn f [] caps) [.int .i64 (Int.ofNat k)] σ κ = κ (.bool r) σ1 := fun κ => by
  show callK (D f ([] ++ [.int .i64 (Int.ofNat k)] ++ caps) σ) κ = _
  rw [g1]; rfl
 show T248_2 E D W (T248_1 E D W) (T248_2 E D W (T248_1 E D W) (L248_2 E D W (M + 2) M)) (.sl b 0 1 (.ex 1)) (.fn f [] caps) (Int.ofNat 1) (Int.ofNat 0) σ = _
 have k1 : ∀ K R, T248_2 E D W K R (.sl b 0 1 (.ex 1)) (.fn f [] caps) (Int.ofNat 1) (Int.ofNat 0) σ = condK r (some (.int .i64 (Int.ofNat 0), σ1)) (R (.sl b 0 1 (.ex 1)) (.fn f [] caps) (Int.ofNat 1) (Int.ofNat 1) σ1) := by
  intro K R
  unfold T248_2
  simp -implicitDefEqProofs only [↓rP, rS, rQ, decide_false, decide_true, Nat.reduceEqDiff, Nat.reduceLT, Nat.reduceLeDiff, ↓ia, ↓ldK_is ab, ↓cv, addF_nat (show 0 + 1 ≤ 9223372036854775807 by omega)]
 have k2 : ∀ K R, T248_2 E D W K R (.sl b 0 1 (.ex 1)) (.fn f [] caps) (Int.ofNat 1) (Int.ofNat 1) σ1 = K σ1 := by
  intro K R
  unfold T248_2
  simp -implicitDefEqProofs only [↓rP, rS, rQ, decide_false, decide_true, Nat.reduceEqDiff, Nat.reduceLT, Nat.reduceLeDiff, Nat.lt_irrefl]
 rw [k1, k2]
 cases r <;> rfl
theorem cfI_F {D' : Den} (h : SpIxI (D 248) D') : SpCfI (F156 E D W N) D' := by
 intro σ b k f caps r ab hr
 obtain ⟨σ1, g1, f1⟩ := h σ b k f caps r ab hr
 refine ⟨σ1, ?_, f1⟩
 show T156_0 E D W _ _ σ = _
 unfold T156_0
 simp -implicitDefEqProofs only [↓rP, rS, ↓g1]
 cases r <;> rfl
theorem efieldsq_F {g : Nat → Vc} {ab : Nat → Bool} {n : Nat} (hA : SpAb (D 158) n g ab) {σ : H} (ht : Tidy σ) {q k : Nat} {l : V} {hl : l.one = true} {r : Int} {mv : V} {hm : mv.one = true} (hr : Row σ 6 n l fun k => (g k).c) (hk : k < n) (aq : Atc σ q (Vc.sq l hl r mv hm).c) :
  ∃ σ', F157 E D W N ([] ++ [.int .i64 (Int.ofNat k)] ++ [.ptr q 0]) σ = some (.bool (!ab k), σ') ∧ Fr Nowhere σ σ' := by
 obtain ⟨σ1, g1, f1⟩ := hA σ k hk ht
 refine ⟨σ1, ?_, f1⟩
 have rd : ∀ κ, iaddrSK 6 l (Int.ofNat k) (fun b o => ldnK E σ b o 6 κ) = κ (g k).c := fun κ => hr.all hk κ
 unfold Vc.c at rd g1
 unfold Vc.sq Vc.c at aq
 show T157_0 E D W (Int.ofNat k) (.ptr q 0) σ = _
 unfold T157_0
 simp -implicitDefEqProofs only [↓rP, rS, ↓ldK_is aq, ↓rd, (g k).oneB, (g k).oneL, (g k).oneM, ↓g1]
end
end
noncomputable section
structure Kp (σ : H) (w : Nat) (u : V) (q : Nat) (l : List V) : Prop where
 a : Atc σ q l
 o : Off σ w u q
section
variable {σ0 σ σ1 : H} {w q : Nat} {u u1 : V} {l : List V} {L L1 : List Nat}
theorem Kp.step (h : Kp σ w u q l) (s : Pst σ w u σ1 u1 L1) (ht : Tidy σ) : Kp σ1 w u1 q l := ⟨s.at_ ht h.o h.a, s.off h.o⟩
theorem Kp.fr (h : Kp σ w u q l) (f : Fr Nowhere σ σ1) (ht : Tidy σ) : Kp σ1 w u q l := ⟨f.at_ h.a ht (fun h => h), h.o.fr f⟩
theorem Kp.new (h : Pw σ w u L) (ht : Tidy σ) (hq : σ.next ≤ q) (ht1 : Tidy σ1) (a : Atc σ1 q l) : Kp σ1 w u q l := ⟨a, Off.pw h ht hq (a.lt ht1)⟩
end
def preF (op ab : Nat → Bool) : List Nat → List Nat
 | [] => []
 | k :: K => (if op k = true then [if (!ab k) = true then 1 else 0] else []) ++ preF op ab K
def bodyF (ab : Nat → Bool) (X : Nat → List Nat) : List Nat → List Nat
 | [] => []
 | k :: K => (if ab k = true then [] else X k) ++ bodyF ab X K
theorem preF_len (op ab : Nat → Bool) : ∀ K, (preF op ab K).length ≤ K.length
 | [] => Nat.le_refl _
 | k :: K => by
  have := preF_len op ab K
  rw [preF, List.length_append, List.length_cons]
  split <;> simp only [List.length_cons, List.length_nil] <;> omega
theorem bodyF_len {ab : Nat → Bool} {X : Nat → List Nat} (h : ∀ k, (X k).length ≤ 1000) : ∀ K, (bodyF ab X K).length ≤ 1000 * K.length
 | [] => Nat.le_refl _
 | k :: K => by
  have := bodyF_len (ab := ab) h K
  have := h k
  rw [bodyF, List.length_append, List.length_cons]
  split
  ·rw [List.length_nil]; omega
  ·omega
def i64s (K : List Nat) : List V := K.map fun k => .int .i64 (Int.ofNat k)
structure Ks (σ : H) (w : Nat) (u lv : V) (K : List Nat) : Prop where
 s : Src σ 1 K.length lv (i64s K)
 o : ∀ b, Names lv b → Off σ w u b
theorem Ks.step {σ σ1 : H} {w : Nat} {u u1 lv : V} {K L1 : List Nat} (h : Ks σ w u lv K) (s : Pst σ w u σ1 u1 L1) (ht : Tidy σ) : Ks σ1 w u1 lv K := ⟨s.row ht h.o h.s, fun b hb => s.off (h.o b hb)⟩
theorem Ks.fr {σ σ1 : H} {w : Nat} {u lv : V} {K : List Nat} (h : Ks σ w u lv K) (f : Fr Nowhere σ σ1) (ht : Tidy σ) : Ks σ1 w u lv K := ⟨h.s.fr f ht (fun _ _ h => h), fun b hb => (h.o b hb).fr f⟩
structure Fds (F : List V → H → Ans) (nT : Nat) (ty : Nat → Ty) (nf : Nat) (fd : Nat → Fd) (g : Nat → Vc) (ab : Nat → Bool) (X : Nat → List Nat) : Prop where
 val : ∀ k, k < nf → ab k = false → ∃ j, (fd k).type = Int.ofNat j ∧ SpVal F nT ty j (g k) (X k)
 few : ∀ k, (X k).length ≤ 1000
section
variable {E : List (Nat × Blk)} {D : Den} {W : DrawFn} {N : Nat} {nT : Nat} {ty : Nat → Ty} {nm : BS} {nv rv tv : V} {nf : Nat} {fd : Nat → Fd} {g : Nat → Vc} {ab : Nat → Bool} {X : Nat → List Nat} {x : Ty} {l lv : V} {K : List Nat}
def Fd.op (f : Fd) : Bool := f.opt || f.has
theorem some1 (hA : SpAb (D 158) nf g ab) (hF : SpEFlag (D 71)) {σ0 : H} (ht0 : Tidy σ0) (hs : SeqTy σ0 x nf fd) (hr : Row σ0 6 nf l fun k => (g k).c) (hKn : ∀ k ∈ K, k < nf) {eb w qx qv : Nat} {cs : List V} {v0 : Vc} (hv0 : v0.l = l) :
  ∀ (m n' i : Nat) (u : V) (σ : H) (L : List Nat), i + m = K.length → m < n' → Wk σ0 σ eb w u cs L → Kp σ w u qx x.c → Kp σ w u qv v0.c → Ks σ w u lv K → L.length + m < 1000000 → K.length < 100000 →
   ∃ u' σ', L160_2 E D W N n' (.ptr eb 0) lv qx 0 qv 0 lv (Int.ofNat K.length) (Int.ofNat i) σ = J160_1 E D W N (.ptr eb 0) lv qx 0 qv 0 σ' ∧ Pst σ w u σ' u' (L ++ preF (fun k => (fd k).op) ab (K.drop i)) := by
 intro m
 induction m with
 | zero =>
  intro n' i u σ L hi hn' wk kx kv hK hl hk
  obtain ⟨n', rfl⟩ : ∃ k, n' = k + 1 := ⟨n' - 1, by omega⟩
  refine ⟨u, σ, ?_, ?_⟩
  ·have k0 : ∀ K1 K3, T160_2 E D W K1 K3 (.ptr eb 0) lv qx 0 qv 0 lv (Int.ofNat K.length) (Int.ofNat i) σ = K1 (.ptr eb 0) lv qx 0 qv 0 σ := by
    intro K1 K3
    unfold T160_2
    rw [ltF_nat, decide_eq_false (by omega), condK_false]
   exact k0 _ _
  ·rw [List.drop_eq_nil_of_le (by omega), show preF _ ab [] = [] from rfl, List.append_nil]; exact Pst.refl wk.pw wk.tidy
 | succ m ih =>
  intro n' i u σ L hi hn' wk kx kv hK hl hk
  obtain ⟨n', rfl⟩ : ∃ k, n' = k + 1 := ⟨n' - 1, by omega⟩
  have hlt : i < K.length := by omega
  have hki : K[i]? = some K[i] := List.getElem?_eq_getElem hlt
  have hkn := hKn K[i] (List.getElem_mem hlt)
  have d1 : decide (i < K.length) = true := decide_eq_true hlt
  have f0 := wk.f
  have r1 : ∀ κ, iaddrSK 1 lv (Int.ofNat i) (fun b o => ldK E σ b o κ) = κ (.int .i64 (Int.ofNat K[i])) := fun κ => src_at hK.s (by unfold i64s; rw [List.getElem?_map, hki]; rfl) κ
  have row := hs.row.fr0 f0 ht0
  have ro : ∀ κ, iaddrSK 11 x.fields (Int.ofNat K[i]) (fun b o => ldK E σ b (Nat.add o 2) κ) = κ (.bool (fd K[i]).opt) := fun κ => row.one hkn (j := 2) rfl κ
  have rh : ∀ κ, iaddrSK 11 x.fields (Int.ofNat K[i]) (fun b o => ldK E σ b (Nat.add o 3) κ) = κ (.bool (fd K[i]).has) := fun κ => row.one hkn (j := 3) rfl κ
  have rg : ∀ κ, iaddrSK 6 l (Int.ofNat K[i]) (fun b o => ldnK E σ b o 6 κ) = κ (g K[i]).c := fun κ => (hr.fr0 f0 ht0).all hkn κ
  have ax := kx.a
  have av := kv.a
  obtain ⟨u2, σ2, g2, s2⟩ : ∃ u2 σ2, (∀ K1 K3, T160_2 E D W K1 K3 (.ptr eb 0) lv qx 0 qv 0 lv (Int.ofNat K.length) (Int.ofNat i) σ = K3 (.ptr eb 0) lv qx 0 qv 0 lv (Int.ofNat K.length) (Int.ofNat i) σ2) ∧ Pst σ w u σ2 u2 (L ++ (if (fd K[i]).op = true then [if (!ab K[i]) = true then 1 else 0] else [])) := by
   by_cases ho : (fd K[i]).op = true
   ·obtain ⟨σ1, g1, f1⟩ := hA σ K[i] hkn wk.tidy
    have w1 := wk.fr f1
    obtain ⟨u2, σ2, g2, s2⟩ := hF σ1 eb w u L (!ab K[i]) cs w1.e w1.pw w1.tidy (by omega)
    rw [if_pos ho]
    refine ⟨u2, σ2, fun K1 K3 => ?_, Pst.behind f1 s2⟩
    unfold Vc.c at rg g1 av
    rw [hv0] at av
    unfold Ty.c at ax
    unfold T160_2
    unfold Fd.op at ho
    cases h1 : (fd K[i]).opt with
    | true =>
     rw [h1] at ro
     simp -implicitDefEqProofs only [↓rP, rS, rQ, decide_false, decide_true, Nat.reduceEqDiff, Nat.reduceLT, Nat.reduceLeDiff, d1, ↓r1, ↓ldK_is ax, ↓ro, ↓ldK_is av, ↓rg, (g K[i]).oneB, (g K[i]).oneL, (g K[i]).oneM, ↓g1, ↓g2]
    | false =>
     rw [h1, Bool.false_or] at ho
     rw [h1] at ro
     rw [ho] at rh
     simp -implicitDefEqProofs only [↓rP, rS, rQ, decide_false, decide_true, Nat.reduceEqDiff, Nat.reduceLT, Nat.reduceLeDiff, d1, ↓r1, ↓ldK_is ax, ↓ro, ↓rh, ↓ldK_is av, ↓rg, (g K[i]).oneB, (g K[i]).oneL, (g K[i]).oneM, ↓g1, ↓g2]
   ·rw [if_neg ho, List.append_nil]
    refine ⟨u, σ, fun K1 K3 => ?_, Pst.refl wk.pw wk.tidy⟩
    unfold Fd.op at ho
    have h1 : (fd K[i]).opt = false := by cases h : (fd K[i]).opt <;> simp_all
    have h2 : (fd K[i]).has = false := by cases h : (fd K[i]).has <;> simp_all
    rw [h1] at ro
    rw [h2] at rh
    unfold Ty.c at ax
    unfold T160_2
    simp -implicitDefEqProofs only [↓rP, rS, rQ, decide_false, decide_true, Nat.reduceEqDiff, Nat.reduceLT, Nat.reduceLeDiff, d1, ↓r1, ↓ldK_is ax, ↓ro, ↓rh]
  have hlen : (L ++ (if (fd K[i]).op = true then [if (!ab K[i]) = true then 1 else 0] else [])).length ≤ L.length + 1 := by
   rw [List.length_append]; split <;> simp
  obtain ⟨u3, σ3, g3, s3⟩ := ih n' (i + 1) u2 σ2 _ (by omega) (by omega) (wk.step s2) (kx.step s2 wk.tidy) (kv.step s2 wk.tidy) (hK.step s2 wk.tidy) (by omega) hk
  refine ⟨u3, σ3, ?_, ?_⟩
  ·refine (g2 _ _).trans ?_
   show L160_2 E D W N n' (.ptr eb 0) lv qx 0 qv 0 lv (Int.ofNat K.length) (addF .i64 (Int.ofNat i) (Int.ofNat 1)) σ2 = _
   rw [addF_nat (by omega)]
   exact g3
  ·have := s2.trans s3
   rw [List.append_assoc] at this
   rw [List.drop_eq_getElem_cons hlt, preF]
   exact this
theorem some2 (hA : SpAb (D 158) nf g ab) (hV : Fds (D 39) nT ty nf fd g ab X) {σ0 : H} (ht0 : Tidy σ0) (T : Tb σ0 nT ty nv rv tv) (hs : SeqTy σ0 x nf fd) (hr : Row σ0 6 nf l fun k => (g k).c) (hKn : ∀ k ∈ K, k < nf) {eb w qx qv : Nat} {v0 : Vc} (hv0 : v0.l = l) :
  ∀ (m n' i : Nat) (u : V) (σ : H) (L : List Nat), i + m = K.length → m < n' → Wk σ0 σ eb w u [.str nm, nv, rv, tv] L → Kp σ w u qx x.c → Kp σ w u qv v0.c → Ks σ w u lv K → L.length + 1000 * m < 1000000 → K.length < 100000 →
   ∃ u' σ', L160_4 E D W N n' (.ptr eb 0) qx 0 qv 0 lv (Int.ofNat K.length) (Int.ofNat i) σ = some (.tup [], σ') ∧ Pst σ w u σ' u' (L ++ bodyF ab X (K.drop i)) := by
 intro m
 induction m with
 | zero =>
  intro n' i u σ L hi hn' wk kx kv hK hl hk
  obtain ⟨n', rfl⟩ : ∃ k, n' = k + 1 := ⟨n' - 1, by omega⟩
  refine ⟨u, σ, ?_, ?_⟩
  ·have k0 : ∀ K5, T160_4 E D W K5 (.ptr eb 0) qx 0 qv 0 lv (Int.ofNat K.length) (Int.ofNat i) σ = some (.tup [], σ) := by
    intro K5
    unfold T160_4
    rw [ltF_nat, decide_eq_false (by omega), condK_false]
   exact k0 _
  ·rw [List.drop_eq_nil_of_le (by omega), show bodyF ab X [] = [] from rfl, List.append_nil]; exact Pst.refl wk.pw wk.tidy
 | succ m ih =>
  intro n' i u σ L hi hn' wk kx kv hK hl hk
  obtain ⟨n', rfl⟩ : ∃ k, n' = k + 1 := ⟨n' - 1, by omega⟩
  have hlt : i < K.length := by omega
  have hki : K[i]? = some K[i] := List.getElem?_eq_getElem hlt
  have hkn := hKn K[i] (List.getElem_mem hlt)
  have d1 : decide (i < K.length) = true := decide_eq_true hlt
  have f0 := wk.f
  have r1 : ∀ κ, iaddrSK 1 lv (Int.ofNat i) (fun b o => ldK E σ b o κ) = κ (.int .i64 (Int.ofNat K[i])) := fun κ => src_at hK.s (by unfold i64s; rw [List.getElem?_map, hki]; rfl) κ
  have rg : ∀ κ, iaddrSK 6 l (Int.ofNat K[i]) (fun b o => ldnK E σ b o 6 κ) = κ (g K[i]).c := fun κ => (hr.fr0 f0 ht0).all hkn κ
  obtain ⟨σ1, g1, f1⟩ := hA σ K[i] hkn wk.tidy
  have w1 := wk.fr f1
  have rt : ∀ κ, iaddrSK 11 x.fields (Int.ofNat K[i]) (fun b o => ldK E σ1 b (Nat.add o 1) κ) = κ (.int .i64 (fd K[i]).type) := fun κ => (hs.row.fr0 w1.f ht0).one hkn (j := 1) rfl κ
  have rg1 : ∀ κ, iaddrSK 6 l (Int.ofNat K[i]) (fun b o => ldnK E σ1 b o 6 κ) = κ (g K[i]).c := fun κ => (hr.fr0 w1.f ht0).all hkn κ
  have av := kv.a
  have ax1 := (kx.fr f1 wk.tidy).a
  have av1 := (kv.fr f1 wk.tidy).a
  obtain ⟨u2, σ2, g2, s2⟩ : ∃ u2 σ2, (∀ K5, T160_4 E D W K5 (.ptr eb 0) qx 0 qv 0 lv (Int.ofNat K.length) (Int.ofNat i) σ = K5 (.ptr eb 0) qx 0 qv 0 lv (Int.ofNat K.length) (Int.ofNat i) σ2) ∧ Pst σ w u σ2 u2 (L ++ (if ab K[i] = true then [] else X K[i])) := by
   unfold Vc.c at rg rg1 g1 av av1
   rw [hv0] at av av1
   unfold Ty.c at ax1
   cases ha : ab K[i] with
   | true =>
    rw [ha] at g1
    refine ⟨u, σ1, fun K5 => ?_, by rw [if_pos rfl, List.append_nil]; exact Pst.behind f1 (Pst.refl w1.pw w1.tidy)⟩
    unfold T160_4
    simp -implicitDefEqProofs only [↓rP, rS, rQ, decide_false, decide_true, Nat.reduceEqDiff, Nat.reduceLT, Nat.reduceLeDiff, d1, ↓r1, ↓ldK_is av, ↓rg, (g K[i]).oneB, (g K[i]).oneL, (g K[i]).oneM, ↓g1]
   | false =>
    rw [ha] at g1
    obtain ⟨j, hj, hval⟩ := hV.val K[i] hkn ha
    rw [hj] at rt
    obtain ⟨u2, σ2, g2, s2⟩ := hval σ0 σ1 eb w u L nm nv rv tv ht0 T w1 (by omega)
    refine ⟨u2, σ2, fun K5 => ?_, by rw [if_neg (by decide)]; exact Pst.behind f1 s2⟩
    unfold Vc.c at g2
    unfold T160_4
    simp -implicitDefEqProofs only [↓rP, rS, rQ, decide_false, decide_true, Nat.reduceEqDiff, Nat.reduceLT, Nat.reduceLeDiff, d1, ↓r1, ↓ldK_is av, ↓rg, (g K[i]).oneB, (g K[i]).oneL, (g K[i]).oneM, ↓g1, ↓ldK_is ax1, ↓rt, ↓ldK_is av1, ↓rg1, ↓g2]
  have hx := hV.few K[i]
  have hlen : (L ++ (if ab K[i] = true then [] else X K[i])).length ≤ L.length + 1000 := by
   rw [List.length_append]; split <;> simp <;> omega
  obtain ⟨u3, σ3, g3, s3⟩ := ih n' (i + 1) u2 σ2 _ (by omega) (by omega) (wk.step s2) (kx.step s2 wk.tidy) (kv.step s2 wk.tidy) (hK.step s2 wk.tidy) (by omega) hk
  refine ⟨u3, σ3, ?_, ?_⟩
  ·refine (g2 _).trans ?_
   show L160_4 E D W N n' (.ptr eb 0) qx 0 qv 0 lv (Int.ofNat K.length) (addF .i64 (Int.ofNat i) (Int.ofNat 1)) σ2 = _
   rw [addF_nat (by omega)]
   exact g3
  ·have := s2.trans s3
   rw [List.append_assoc] at this
   rw [List.drop_eq_getElem_cons hlt, bodyF]
   exact this
def SpESome (F : List V → H → Ans) (nT : Nat) (ty : Nat → Ty) (nf : Nat) (fd : Nat → Fd) (g : Nat → Vc) (ab : Nat → Bool) (X : Nat → List Nat) : Prop := ∀ {σ0 : H} {x : Ty} {l lv : V} {K : List Nat} {eb w : Nat} {v0 : Vc} {u : V} {σ : H} {L : List Nat} {nm : BS} {nv rv tv : V},
 Tidy σ0 → Tb σ0 nT ty nv rv tv → SeqTy σ0 x nf fd → Row σ0 6 nf l (fun k => (g k).c) → (∀ k ∈ K, k < nf) → v0.l = l → Wk σ0 σ eb w u [.str nm, nv, rv, tv] L → Ks σ w u lv K → L.length < 500000 → K.length < 400 →
 ∃ u' σ', F [.ptr eb 0, .agg x.c, .agg v0.c, lv] σ = some (.tup [], σ') ∧ Pst σ w u σ' u' (L ++ (preF (fun k => (fd k).op) ab K ++ bodyF ab X K))
theorem some_F (hA : SpAb (D 158) nf g ab) (hF : SpEFlag (D 71)) (hV : Fds (D 39) nT ty nf fd g ab X) {σ0 : H} (ht0 : Tidy σ0) (T : Tb σ0 nT ty nv rv tv) (hs : SeqTy σ0 x nf fd) (hr : Row σ0 6 nf l fun k => (g k).c) (hKn : ∀ k ∈ K, k < nf) {eb w : Nat} {v0 : Vc} (hv0 : v0.l = l)
  {u : V} {σ : H} {L : List Nat} (wk : Wk σ0 σ eb w u [.str nm, nv, rv, tv] L) (hK : Ks σ w u lv K) (hl : L.length < 500000) (hk : K.length < 400) (hN : 1000 < N) :
  ∃ u' σ', F160 E D W N [.ptr eb 0, .agg x.c, .agg v0.c, lv] σ = some (.tup [], σ') ∧ Pst σ w u σ' u' (L ++ (preF (fun k => (fd k).op) ab K ++ bodyF ab X K)) := by
 obtain ⟨σ1, e1, f1, a1, n1⟩ := mk_new wk.tidy x.c
 obtain ⟨σ2, e2, f2, a2, n2⟩ := mk_new f1.tidy v0.c
 have f02 := f1.trans f2 (fun _ _ h => h)
 have w2 := wk.fr f02
 have a12 := f2.at_ a1 f1.tidy (fun h => h)
 have l1 := f1.le
 have kx : Kp σ2 w u σ.next x.c := Kp.new wk.pw wk.tidy (Nat.le_refl _) f2.tidy a12
 have kv : Kp σ2 w u σ1.next v0.c := Kp.new wk.pw wk.tidy l1 f2.tidy a2
 have hp := preF_len (fun k => (fd k).op) ab K
 obtain ⟨u3, σ3, g3, s3⟩ := some1 (W := W) (N := N) hA hF ht0 hs hr hKn hv0 K.length N 0 u σ2 L (by omega) (by omega) w2 kx kv (hK.fr f02 wk.tidy) (by omega) (by omega)
 rw [List.drop_zero] at s3
 obtain ⟨u4, σ4, g4, s4⟩ := some2 (W := W) (N := N) hA hV ht0 T hs hr hKn hv0 K.length N 0 u3 σ3 _ (by omega) (by omega) (w2.step s3) (kx.step s3 w2.tidy) (kv.step s3 w2.tidy) ((hK.fr f02 wk.tidy).step s3 w2.tidy) (by rw [List.length_append]; omega) (by omega)
 rw [List.drop_zero, List.append_assoc] at s4
 refine ⟨u4, σ4, ?_, Pst.behind f02 (s3.trans s4)⟩
 have sk : ∀ κ : Nat → Ans, slenK lv κ = κ K.length := fun κ => hK.s.slen
 unfold Ty.c at e1
 unfold Vc.c at e2
 show T160_0 E D W (L160_2 E D W N N) (.ptr eb 0) x.kind x.tags x.has x.hasLow x.hasHigh x.conMore x.low x.high x.items x.fields x.root x.more x.of_ v0.k v0.n v0.b v0.l v0.r v0.m lv σ = _
 have k0 : ∀ K2, T160_0 E D W K2 (.ptr eb 0) x.kind x.tags x.has x.hasLow x.hasHigh x.conMore x.low x.high x.items x.fields x.root x.more x.of_ v0.k v0.n v0.b v0.l v0.r v0.m lv σ = K2 (.ptr eb 0) lv σ.next 0 σ1.next 0 lv (Int.ofNat K.length) (Int.ofNat 0) σ2 := by
  intro K2
  unfold T160_0
  simp -implicitDefEqProofs only [↓rP, rS, x.oneT, x.oneI, x.oneF, v0.oneB, v0.oneL, v0.oneM, ↓e1, ↓e2, ↓sk]
 refine (k0 _).trans (g3.trans ?_)
 show T160_1 E D W (L160_4 E D W N N) (.ptr eb 0) lv σ.next 0 σ1.next 0 σ3 = _
 unfold T160_1
 exact (sk _).trans g4
end
end
end Go.Proofs.YtgjjnbddbbhloaaGreatDoor
