/- What is known of calls whose arguments hold no address. Printed by a program; each is proved here. No condition. -/
import Derived.Test.YthkkkmkcjgaghaaGreatDoorD
set_option linter.all false
set_option maxRecDepth 100000
set_option maxHeartbeats 0
namespace Go.Proofs.YthkkkmkcjgaghaaGreatDoor.storeFull
open Go Go.Og
noncomputable section
def t0 : BS := ⟨53, 1737457197874064976168543671879563561806554133799371613807770373899712756768576893345838405349305042644083264562168248507048013⟩
def t1 : BS := ⟨62, 54587738107187912491463983150716236836537282517041009450656832903919241498426823358442226723886270263432387896706087170717833526251817432669418168397⟩
def t2 : BS := ⟨77, 10906195591982546837147182888926318332387824614514104681330188620394855878864224603651019666438353828538535608972931923557439049631294596995306543878764129274060350422194851558019309645⟩
def t3 : BS := ⟨66, 234452549932985038871677758029224967844862060904912912366689277262802228234467964027556319485213817179617032613121409836424248495410494672470316331482030022733⟩
def t4 : BS := ⟨81, 46841753391344398531651970167279628272610219752315284833456719406223010211809898052295160858274370176910348772171013846197773764166591621265491780678912361363552830441675392459991967800962064461⟩
def t5 : BS := ⟨70, 1006966034425977785985394449918722640566372994115091494418826356411939853537161990769798299715791848686804654467146012028624342224192401517104926247248786331453507248205⟩
def t6 : BS := ⟨85, 201183798903121281438178285107934988967777318627750561277766491053839769924628689467763152029319528381147695143486600506954776047344737297467214421280069684709099039477269174506920813274262818680073363533⟩
def t7 : BS := ⟨74, 4324886186042384948575446075594892478386860302807050212958812012663735180673247187556610860681865065533911791204541827205033833702232506043106866410803217792469160990922758168653⟩
def t8 : BS := ⟨89, 864077836773946577266572378739169236068365648625914290142500741493694803851381292971827971409286156880658670760620067777978556043562126384111827568633886969886629361831276538450692583754199635107354490953519079501⟩
def t9 : BS := ⟨78, 18575244727974215990108563662551882892679993448733299113364897200393616395676674401371513884163202149687622548333637338653176809285405177964350264243628059024325200434526917586110019543117⟩
def t10 : BS := ⟨93, 3711186050142526699227521951982761036940757520411049436601015241184809807542611438372244528413500113186594807425475515677451030261320151782576657759668982305123777845570505210501076814813317067240999527309438286424852144205⟩
def t11 : BS := ⟨82, 79780068621845678158272110267321656418950589300336964942590623683006404953248977984064267560090924048188463841123520580599107437830706958821909276548199904560496575963006626215166319586746432757837⟩
def t12 : BS := ⟨97, 15939422714733568333534551904646635406383799453726340260727697915989949920694169268009630568283817540278894214767478034878890579938512108509368109806113391755076090751384930211548138657272419882311069404239460701853583863961744580685⟩
def t13 : BS := ⟨86, 342652785603462996670753892203267974496145179943305913717032295298945402750621406637671925881813512493711337939229319555415989218485629485521734438282308076164971542109054509912858324496681646791938372018253⟩
def t14 : BS := ⟨101, 68459299276900213438449409936968197104641081216278740593985571147583794757588604599816972750861964471077581803891786116217206356041656317144319255761142295142865228341233363654056215258612455761095594474667940147684394821040019003137503535181⟩
def t15 : BS := ⟨90, 1471682508050173271592096593520754578831483790489356778456354237460147741439775186084208604186514472605591393672500446940604406589305535815905052693176999401046521128361040914953372740673852940935318331465040335741005⟩
def t16 : BS := ⟨105, 294030451501362865371004556351294604775150470286184740755299906597019915792056230696687463414215126561338097676161973679926483302161824631029852927167138143969271722558889373407093997830828853848974340323855687753930466360056115870853680903253886509133⟩
def t17 : BS := ⟨94, 6320828242170751257379874644563042362728353699360322961007019234649021602430017512956057701488330087122650935185942747400821218291452259965204552124455573995952375385147533186676097661016213197688846360202325545983466820345933⟩
def t18 : BS := ⟨109, 1262851173226467607904327171410486740656477538601460354871497215102991942671263775135534409896762678262474544288833120133969141366740759214587597080550483326325153225452993703763480903645740090370608730044380590782812676965196728971553412123448738460726898991181⟩
def t19 : BS := ⟨43, 1437190909222389190506424207405991457491898546295652797863108843149593201614951881031335690611206402125⟩
def t20 : BS := ⟨43, 1437190909222389190506424207405991457491898546295652797863108843149593201614951881031335690611206402381⟩
def t21 : BS := ⟨43, 1437190909222389190506424207405991457491898546295652797863108843149593201614951881031335690611206402637⟩
def t22 : BS := ⟨43, 1437190909222389190506424207405991457491898546295652797863108843149593201614951881031335690611206402893⟩
def t23 : BS := ⟨43, 1437190909222389190506424207405991457491898546295652797863108843149593201614951881031335690611206403149⟩
def t24 : BS := ⟨43, 1437190909222389190506424207405991457491898546295652797863108843149593201614951881031335690611206403405⟩
def t25 : BS := ⟨43, 1437190909222389190506424207405991457491898546295652797863108843149593201614951881031335690611206403661⟩
def t26 : BS := ⟨43, 1437190909222389190506424207405991457491898546295652797863108843149593201614951881031335690611206403917⟩
def t27 : BS := ⟨43, 1437190909222389190506424207405991457491898546295652797863108843149593201614951881031335690611206404173⟩
/-- ogham/store.read -/
def k0 : Con := ⟨[.str ⟨38, 8696328401110393999863008430138354213846351527998628442106982968015151536563225768914853965⟩], .tup [.agg [.int .i64 (Int.ofNat 0), .str t0, .str ⟨1, 77⟩, .sl 232 0 1 (.op 1), .sl 250 0 1 (.op 1), .sl 247 0 1 (.op 13)], .int .i64 (Int.ofNat 0), .int .i64 (Int.ofNat 0)],
  [(250, .cells [.int .i64 (Int.ofNat 0)]),
  (247, .cells [.int .i64 (Int.ofNat 4), .sl 234 0 1 (.ex 1), .bool false, .bool false, .bool false, .bool false, .int .i64 (Int.ofNat 0), .int .i64 (Int.ofNat 0), .nils, .nils, .int .i64 (Int.ofNat 0), .bool false, .int .i64 (Int.ofNat 0)]),
  (234, .cells [.int .i64 (Int.ofNat 0), .int .i64 (Int.ofNat 5)]),
  (232, .cells [.str ⟨1, 65⟩])], 184⟩
def kn0 : List (Nat × List Con) := []
theorem g0 : ∀ p ∈ kn0, Go.Og.Good Tryz.prog glob p.1 p.2 := fun _ h => nomatch h
theorem r0 : k0.right (denK (BD [] 100000) kn0 60 25) = true := by kernel_rfl
theorem x0 : ∃ F, SoundFn Tryz.prog [] glob 25 F ∧ k0.right F = true := ⟨_, denK_ok (BD_ok [] 100000) globLt (by decide) g0 60 25, r0⟩
/-- ogham/oghamlaw23.awake -/
def k1 : Con := ⟨[], .bool true,
  [], 400⟩
def kn1 : List (Nat × List Con) := [(25, [k0])]
theorem g1 : ∀ p ∈ kn1, Go.Og.Good Tryz.prog glob p.1 p.2 := by
  unfold kn1
  simp only [List.forall_mem_cons]
  exact ⟨(show Go.Og.Good _ _ 25 [k0] from by unfold Go.Og.Good; simp only [List.forall_mem_cons]; exact ⟨x0, fun _ h => nomatch h⟩), fun _ h => nomatch h⟩
theorem r1 : k1.right (denK (BD [] 100000) kn1 60 12) = true := by kernel_rfl
theorem x1 : ∃ F, SoundFn Tryz.prog [] glob 12 F ∧ k1.right F = true := ⟨_, denK_ok (BD_ok [] 100000) globLt (by decide) g1 60 12, r1⟩
/-- ogham/store.read -/
def k2 : Con := ⟨[.str t1], .tup [.agg [.int .i64 (Int.ofNat 0), .str t2, .str ⟨1, 77⟩, .sl 309 0 1 (.op 1), .sl 358 0 1 (.op 1), .sl 324 0 1 (.op 13)], .int .i64 (Int.ofNat 0), .int .i64 (Int.ofNat 0)],
  [(358, .cells [.int .i64 (Int.ofNat 0)]),
  (349, .cells [.str ⟨1, 97⟩, .int .i64 (Int.ofNat 0), .bool false, .str ⟨1, 120⟩, .int .i64 (Int.ofNat 1), .bool false, .str ⟨2, 12409⟩, .int .i64 (Int.ofNat 2), .bool false]),
  (324, .cells [.int .i64 (Int.ofNat 3), .sl 311 0 1 (.ex 1), .bool false, .bool false, .bool false, .bool false, .int .i64 (Int.ofNat 0), .int .i64 (Int.ofNat 0), .sl 349 0 3 (.op 3), .nils, .int .i64 (Int.ofNat 1), .bool true, .int .i64 (Int.ofNat 0)]),
  (311, .cells [.int .i64 (Int.ofNat 0), .int .i64 (Int.ofNat 10)]),
  (309, .cells [.str ⟨1, 65⟩])], 342⟩
def kn2 : List (Nat × List Con) := [(25, [k0]), (12, [k1])]
theorem g2 : ∀ p ∈ kn2, Go.Og.Good Tryz.prog glob p.1 p.2 := by
  unfold kn2
  simp only [List.forall_mem_cons]
  exact ⟨(show Go.Og.Good _ _ 25 [k0] from by unfold Go.Og.Good; simp only [List.forall_mem_cons]; exact ⟨x0, fun _ h => nomatch h⟩), (show Go.Og.Good _ _ 12 [k1] from by unfold Go.Og.Good; simp only [List.forall_mem_cons]; exact ⟨x1, fun _ h => nomatch h⟩), fun _ h => nomatch h⟩
theorem r2 : k2.right (denK (BD [] 100000) kn2 60 25) = true := by kernel_rfl
theorem x2 : ∃ F, SoundFn Tryz.prog [] glob 25 F ∧ k2.right F = true := ⟨_, denK_ok (BD_ok [] 100000) globLt (by decide) g2 60 25, r2⟩
/-- ogham/store.read -/
def k3 : Con := ⟨[.str t3], .tup [.agg [.int .i64 (Int.ofNat 0), .str t4, .str ⟨1, 77⟩, .sl 331 0 1 (.op 1), .sl 386 0 1 (.op 1), .sl 346 0 1 (.op 13)], .int .i64 (Int.ofNat 0), .int .i64 (Int.ofNat 0)],
  [(386, .cells [.int .i64 (Int.ofNat 0)]),
  (373, .cells [.str ⟨1, 97⟩, .int .i64 (Int.ofNat 0), .bool false, .str ⟨1, 120⟩, .int .i64 (Int.ofNat 1), .bool false, .str ⟨2, 12409⟩, .int .i64 (Int.ofNat 2), .bool false, .str ⟨2, 12665⟩, .int .i64 (Int.ofNat 3), .bool false]),
  (346, .cells [.int .i64 (Int.ofNat 3), .sl 333 0 1 (.ex 1), .bool false, .bool false, .bool false, .bool false, .int .i64 (Int.ofNat 0), .int .i64 (Int.ofNat 0), .sl 373 0 4 (.op 3), .nils, .int .i64 (Int.ofNat 1), .bool true, .int .i64 (Int.ofNat 0)]),
  (333, .cells [.int .i64 (Int.ofNat 0), .int .i64 (Int.ofNat 10)]),
  (331, .cells [.str ⟨1, 65⟩])], 384⟩
def kn3 : List (Nat × List Con) := [(25, [k0, k2]), (12, [k1])]
theorem g3 : ∀ p ∈ kn3, Go.Og.Good Tryz.prog glob p.1 p.2 := by
  unfold kn3
  simp only [List.forall_mem_cons]
  exact ⟨(show Go.Og.Good _ _ 25 [k0, k2] from by unfold Go.Og.Good; simp only [List.forall_mem_cons]; exact ⟨x0, x2, fun _ h => nomatch h⟩), (show Go.Og.Good _ _ 12 [k1] from by unfold Go.Og.Good; simp only [List.forall_mem_cons]; exact ⟨x1, fun _ h => nomatch h⟩), fun _ h => nomatch h⟩
theorem r3 : k3.right (denK (BD [] 100000) kn3 60 25) = true := by kernel_rfl
theorem x3 : ∃ F, SoundFn Tryz.prog [] glob 25 F ∧ k3.right F = true := ⟨_, denK_ok (BD_ok [] 100000) globLt (by decide) g3 60 25, r3⟩
/-- ogham/store.read -/
def k4 : Con := ⟨[.str t5], .tup [.agg [.int .i64 (Int.ofNat 0), .str t6, .str ⟨1, 77⟩, .sl 353 0 1 (.op 1), .sl 415 0 1 (.op 1), .sl 368 0 1 (.op 13)], .int .i64 (Int.ofNat 0), .int .i64 (Int.ofNat 0)],
  [(415, .cells [.int .i64 (Int.ofNat 0)]),
  (397, .cells [.str ⟨1, 97⟩, .int .i64 (Int.ofNat 0), .bool false, .str ⟨1, 120⟩, .int .i64 (Int.ofNat 1), .bool false, .str ⟨2, 12409⟩, .int .i64 (Int.ofNat 2), .bool false, .str ⟨2, 12665⟩, .int .i64 (Int.ofNat 3), .bool false, .str ⟨2, 12921⟩, .int .i64 (Int.ofNat 4), .bool false]),
  (368, .cells [.int .i64 (Int.ofNat 3), .sl 355 0 1 (.ex 1), .bool false, .bool false, .bool false, .bool false, .int .i64 (Int.ofNat 0), .int .i64 (Int.ofNat 0), .sl 397 0 5 (.op 3), .nils, .int .i64 (Int.ofNat 1), .bool true, .int .i64 (Int.ofNat 0)]),
  (355, .cells [.int .i64 (Int.ofNat 0), .int .i64 (Int.ofNat 10)]),
  (353, .cells [.str ⟨1, 65⟩])], 427⟩
def kn4 : List (Nat × List Con) := [(25, [k0, k2, k3]), (12, [k1])]
theorem g4 : ∀ p ∈ kn4, Go.Og.Good Tryz.prog glob p.1 p.2 := by
  unfold kn4
  simp only [List.forall_mem_cons]
  exact ⟨(show Go.Og.Good _ _ 25 [k0, k2, k3] from by unfold Go.Og.Good; simp only [List.forall_mem_cons]; exact ⟨x0, x2, x3, fun _ h => nomatch h⟩), (show Go.Og.Good _ _ 12 [k1] from by unfold Go.Og.Good; simp only [List.forall_mem_cons]; exact ⟨x1, fun _ h => nomatch h⟩), fun _ h => nomatch h⟩
theorem r4 : k4.right (denK (BD [] 100000) kn4 60 25) = true := by kernel_rfl
theorem x4 : ∃ F, SoundFn Tryz.prog [] glob 25 F ∧ k4.right F = true := ⟨_, denK_ok (BD_ok [] 100000) globLt (by decide) g4 60 25, r4⟩
/-- ogham/store.read -/
def k5 : Con := ⟨[.str t7], .tup [.agg [.int .i64 (Int.ofNat 0), .str t8, .str ⟨1, 77⟩, .sl 375 0 1 (.op 1), .sl 445 0 1 (.op 1), .sl 390 0 1 (.op 13)], .int .i64 (Int.ofNat 0), .int .i64 (Int.ofNat 0)],
  [(445, .cells [.int .i64 (Int.ofNat 0)]),
  (421, .cells [.str ⟨1, 97⟩, .int .i64 (Int.ofNat 0), .bool false, .str ⟨1, 120⟩, .int .i64 (Int.ofNat 1), .bool false, .str ⟨2, 12409⟩, .int .i64 (Int.ofNat 2), .bool false, .str ⟨2, 12665⟩, .int .i64 (Int.ofNat 3), .bool false, .str ⟨2, 12921⟩, .int .i64 (Int.ofNat 4), .bool false, .str ⟨2, 13177⟩, .int .i64 (Int.ofNat 5), .bool false]),
  (390, .cells [.int .i64 (Int.ofNat 3), .sl 377 0 1 (.ex 1), .bool false, .bool false, .bool false, .bool false, .int .i64 (Int.ofNat 0), .int .i64 (Int.ofNat 0), .sl 421 0 6 (.op 3), .nils, .int .i64 (Int.ofNat 1), .bool true, .int .i64 (Int.ofNat 0)]),
  (377, .cells [.int .i64 (Int.ofNat 0), .int .i64 (Int.ofNat 10)]),
  (375, .cells [.str ⟨1, 65⟩])], 471⟩
def kn5 : List (Nat × List Con) := [(25, [k0, k2, k3, k4]), (12, [k1])]
theorem g5 : ∀ p ∈ kn5, Go.Og.Good Tryz.prog glob p.1 p.2 := by
  unfold kn5
  simp only [List.forall_mem_cons]
  exact ⟨(show Go.Og.Good _ _ 25 [k0, k2, k3, k4] from by unfold Go.Og.Good; simp only [List.forall_mem_cons]; exact ⟨x0, x2, x3, x4, fun _ h => nomatch h⟩), (show Go.Og.Good _ _ 12 [k1] from by unfold Go.Og.Good; simp only [List.forall_mem_cons]; exact ⟨x1, fun _ h => nomatch h⟩), fun _ h => nomatch h⟩
theorem r5 : k5.right (denK (BD [] 100000) kn5 60 25) = true := by kernel_rfl
theorem x5 : ∃ F, SoundFn Tryz.prog [] glob 25 F ∧ k5.right F = true := ⟨_, denK_ok (BD_ok [] 100000) globLt (by decide) g5 60 25, r5⟩
/-- ogham/store.read -/
def k6 : Con := ⟨[.str t9], .tup [.agg [.int .i64 (Int.ofNat 0), .str t10, .str ⟨1, 77⟩, .sl 397 0 1 (.op 1), .sl 476 0 1 (.op 1), .sl 412 0 1 (.op 13)], .int .i64 (Int.ofNat 0), .int .i64 (Int.ofNat 0)],
  [(476, .cells [.int .i64 (Int.ofNat 0)]),
  (445, .cells [.str ⟨1, 97⟩, .int .i64 (Int.ofNat 0), .bool false, .str ⟨1, 120⟩, .int .i64 (Int.ofNat 1), .bool false, .str ⟨2, 12409⟩, .int .i64 (Int.ofNat 2), .bool false, .str ⟨2, 12665⟩, .int .i64 (Int.ofNat 3), .bool false, .str ⟨2, 12921⟩, .int .i64 (Int.ofNat 4), .bool false, .str ⟨2, 13177⟩, .int .i64 (Int.ofNat 5), .bool false, .str ⟨2, 13433⟩, .int .i64 (Int.ofNat 6), .bool false]),
  (412, .cells [.int .i64 (Int.ofNat 3), .sl 399 0 1 (.ex 1), .bool false, .bool false, .bool false, .bool false, .int .i64 (Int.ofNat 0), .int .i64 (Int.ofNat 0), .sl 445 0 7 (.op 3), .nils, .int .i64 (Int.ofNat 1), .bool true, .int .i64 (Int.ofNat 0)]),
  (399, .cells [.int .i64 (Int.ofNat 0), .int .i64 (Int.ofNat 10)]),
  (397, .cells [.str ⟨1, 65⟩])], 516⟩
def kn6 : List (Nat × List Con) := [(25, [k0, k2, k3, k4, k5]), (12, [k1])]
theorem g6 : ∀ p ∈ kn6, Go.Og.Good Tryz.prog glob p.1 p.2 := by
  unfold kn6
  simp only [List.forall_mem_cons]
  exact ⟨(show Go.Og.Good _ _ 25 [k0, k2, k3, k4, k5] from by unfold Go.Og.Good; simp only [List.forall_mem_cons]; exact ⟨x0, x2, x3, x4, x5, fun _ h => nomatch h⟩), (show Go.Og.Good _ _ 12 [k1] from by unfold Go.Og.Good; simp only [List.forall_mem_cons]; exact ⟨x1, fun _ h => nomatch h⟩), fun _ h => nomatch h⟩
theorem r6 : k6.right (denK (BD [] 100000) kn6 60 25) = true := by kernel_rfl
theorem x6 : ∃ F, SoundFn Tryz.prog [] glob 25 F ∧ k6.right F = true := ⟨_, denK_ok (BD_ok [] 100000) globLt (by decide) g6 60 25, r6⟩
/-- ogham/store.read -/
def k7 : Con := ⟨[.str t11], .tup [.agg [.int .i64 (Int.ofNat 0), .str t12, .str ⟨1, 77⟩, .sl 419 0 1 (.op 1), .sl 508 0 1 (.op 1), .sl 434 0 1 (.op 13)], .int .i64 (Int.ofNat 0), .int .i64 (Int.ofNat 0)],
  [(508, .cells [.int .i64 (Int.ofNat 0)]),
  (469, .cells [.str ⟨1, 97⟩, .int .i64 (Int.ofNat 0), .bool false, .str ⟨1, 120⟩, .int .i64 (Int.ofNat 1), .bool false, .str ⟨2, 12409⟩, .int .i64 (Int.ofNat 2), .bool false, .str ⟨2, 12665⟩, .int .i64 (Int.ofNat 3), .bool false, .str ⟨2, 12921⟩, .int .i64 (Int.ofNat 4), .bool false, .str ⟨2, 13177⟩, .int .i64 (Int.ofNat 5), .bool false, .str ⟨2, 13433⟩, .int .i64 (Int.ofNat 6), .bool false, .str ⟨2, 13689⟩, .int .i64 (Int.ofNat 7), .bool false]),
  (434, .cells [.int .i64 (Int.ofNat 3), .sl 421 0 1 (.ex 1), .bool false, .bool false, .bool false, .bool false, .int .i64 (Int.ofNat 0), .int .i64 (Int.ofNat 0), .sl 469 0 8 (.op 3), .nils, .int .i64 (Int.ofNat 1), .bool true, .int .i64 (Int.ofNat 0)]),
  (421, .cells [.int .i64 (Int.ofNat 0), .int .i64 (Int.ofNat 10)]),
  (419, .cells [.str ⟨1, 65⟩])], 562⟩
def kn7 : List (Nat × List Con) := [(25, [k0, k2, k3, k4, k5, k6]), (12, [k1])]
theorem g7 : ∀ p ∈ kn7, Go.Og.Good Tryz.prog glob p.1 p.2 := by
  unfold kn7
  simp only [List.forall_mem_cons]
  exact ⟨(show Go.Og.Good _ _ 25 [k0, k2, k3, k4, k5, k6] from by unfold Go.Og.Good; simp only [List.forall_mem_cons]; exact ⟨x0, x2, x3, x4, x5, x6, fun _ h => nomatch h⟩), (show Go.Og.Good _ _ 12 [k1] from by unfold Go.Og.Good; simp only [List.forall_mem_cons]; exact ⟨x1, fun _ h => nomatch h⟩), fun _ h => nomatch h⟩
theorem r7 : k7.right (denK (BD [] 100000) kn7 60 25) = true := by kernel_rfl
theorem x7 : ∃ F, SoundFn Tryz.prog [] glob 25 F ∧ k7.right F = true := ⟨_, denK_ok (BD_ok [] 100000) globLt (by decide) g7 60 25, r7⟩
/-- ogham/store.read -/
def k8 : Con := ⟨[.str t13], .tup [.agg [.int .i64 (Int.ofNat 0), .str t14, .str ⟨1, 77⟩, .sl 441 0 1 (.op 1), .sl 541 0 1 (.op 1), .sl 456 0 1 (.op 13)], .int .i64 (Int.ofNat 0), .int .i64 (Int.ofNat 0)],
  [(541, .cells [.int .i64 (Int.ofNat 0)]),
  (493, .cells [.str ⟨1, 97⟩, .int .i64 (Int.ofNat 0), .bool false, .str ⟨1, 120⟩, .int .i64 (Int.ofNat 1), .bool false, .str ⟨2, 12409⟩, .int .i64 (Int.ofNat 2), .bool false, .str ⟨2, 12665⟩, .int .i64 (Int.ofNat 3), .bool false, .str ⟨2, 12921⟩, .int .i64 (Int.ofNat 4), .bool false, .str ⟨2, 13177⟩, .int .i64 (Int.ofNat 5), .bool false, .str ⟨2, 13433⟩, .int .i64 (Int.ofNat 6), .bool false, .str ⟨2, 13689⟩, .int .i64 (Int.ofNat 7), .bool false, .str ⟨2, 13945⟩, .int .i64 (Int.ofNat 8), .bool false]),
  (456, .cells [.int .i64 (Int.ofNat 3), .sl 443 0 1 (.ex 1), .bool false, .bool false, .bool false, .bool false, .int .i64 (Int.ofNat 0), .int .i64 (Int.ofNat 0), .sl 493 0 9 (.op 3), .nils, .int .i64 (Int.ofNat 1), .bool true, .int .i64 (Int.ofNat 0)]),
  (443, .cells [.int .i64 (Int.ofNat 0), .int .i64 (Int.ofNat 10)]),
  (441, .cells [.str ⟨1, 65⟩])], 609⟩
def kn8 : List (Nat × List Con) := [(25, [k0, k2, k3, k4, k5, k6, k7]), (12, [k1])]
theorem g8 : ∀ p ∈ kn8, Go.Og.Good Tryz.prog glob p.1 p.2 := by
  unfold kn8
  simp only [List.forall_mem_cons]
  exact ⟨(show Go.Og.Good _ _ 25 [k0, k2, k3, k4, k5, k6, k7] from by unfold Go.Og.Good; simp only [List.forall_mem_cons]; exact ⟨x0, x2, x3, x4, x5, x6, x7, fun _ h => nomatch h⟩), (show Go.Og.Good _ _ 12 [k1] from by unfold Go.Og.Good; simp only [List.forall_mem_cons]; exact ⟨x1, fun _ h => nomatch h⟩), fun _ h => nomatch h⟩
theorem r8 : k8.right (denK (BD [] 100000) kn8 60 25) = true := by kernel_rfl
theorem x8 : ∃ F, SoundFn Tryz.prog [] glob 25 F ∧ k8.right F = true := ⟨_, denK_ok (BD_ok [] 100000) globLt (by decide) g8 60 25, r8⟩
/-- ogham/store.read -/
def k9 : Con := ⟨[.str t15], .tup [.agg [.int .i64 (Int.ofNat 0), .str t16, .str ⟨1, 77⟩, .sl 463 0 1 (.op 1), .sl 575 0 1 (.op 1), .sl 478 0 1 (.op 13)], .int .i64 (Int.ofNat 0), .int .i64 (Int.ofNat 0)],
  [(575, .cells [.int .i64 (Int.ofNat 0)]),
  (517, .cells [.str ⟨1, 97⟩, .int .i64 (Int.ofNat 0), .bool false, .str ⟨1, 120⟩, .int .i64 (Int.ofNat 1), .bool false, .str ⟨2, 12409⟩, .int .i64 (Int.ofNat 2), .bool false, .str ⟨2, 12665⟩, .int .i64 (Int.ofNat 3), .bool false, .str ⟨2, 12921⟩, .int .i64 (Int.ofNat 4), .bool false, .str ⟨2, 13177⟩, .int .i64 (Int.ofNat 5), .bool false, .str ⟨2, 13433⟩, .int .i64 (Int.ofNat 6), .bool false, .str ⟨2, 13689⟩, .int .i64 (Int.ofNat 7), .bool false, .str ⟨2, 13945⟩, .int .i64 (Int.ofNat 8), .bool false, .str ⟨2, 14201⟩, .int .i64 (Int.ofNat 9), .bool false]),
  (478, .cells [.int .i64 (Int.ofNat 3), .sl 465 0 1 (.ex 1), .bool false, .bool false, .bool false, .bool false, .int .i64 (Int.ofNat 0), .int .i64 (Int.ofNat 0), .sl 517 0 10 (.op 3), .nils, .int .i64 (Int.ofNat 1), .bool true, .int .i64 (Int.ofNat 0)]),
  (465, .cells [.int .i64 (Int.ofNat 0), .int .i64 (Int.ofNat 10)]),
  (463, .cells [.str ⟨1, 65⟩])], 657⟩
def kn9 : List (Nat × List Con) := [(25, [k0, k2, k3, k4, k5, k6, k7, k8]), (12, [k1])]
theorem g9 : ∀ p ∈ kn9, Go.Og.Good Tryz.prog glob p.1 p.2 := by
  unfold kn9
  simp only [List.forall_mem_cons]
  exact ⟨(show Go.Og.Good _ _ 25 [k0, k2, k3, k4, k5, k6, k7, k8] from by unfold Go.Og.Good; simp only [List.forall_mem_cons]; exact ⟨x0, x2, x3, x4, x5, x6, x7, x8, fun _ h => nomatch h⟩), (show Go.Og.Good _ _ 12 [k1] from by unfold Go.Og.Good; simp only [List.forall_mem_cons]; exact ⟨x1, fun _ h => nomatch h⟩), fun _ h => nomatch h⟩
theorem r9 : k9.right (denK (BD [] 100000) kn9 60 25) = true := by kernel_rfl
theorem x9 : ∃ F, SoundFn Tryz.prog [] glob 25 F ∧ k9.right F = true := ⟨_, denK_ok (BD_ok [] 100000) globLt (by decide) g9 60 25, r9⟩
/-- ogham/store.read -/
def k10 : Con := ⟨[.str t17], .tup [.agg [.int .i64 (Int.ofNat 0), .str t18, .str ⟨1, 77⟩, .sl 485 0 1 (.op 1), .sl 610 0 1 (.op 1), .sl 500 0 1 (.op 13)], .int .i64 (Int.ofNat 0), .int .i64 (Int.ofNat 0)],
  [(610, .cells [.int .i64 (Int.ofNat 0)]),
  (541, .cells [.str ⟨1, 97⟩, .int .i64 (Int.ofNat 0), .bool false, .str ⟨1, 120⟩, .int .i64 (Int.ofNat 1), .bool false, .str ⟨2, 12409⟩, .int .i64 (Int.ofNat 2), .bool false, .str ⟨2, 12665⟩, .int .i64 (Int.ofNat 3), .bool false, .str ⟨2, 12921⟩, .int .i64 (Int.ofNat 4), .bool false, .str ⟨2, 13177⟩, .int .i64 (Int.ofNat 5), .bool false, .str ⟨2, 13433⟩, .int .i64 (Int.ofNat 6), .bool false, .str ⟨2, 13689⟩, .int .i64 (Int.ofNat 7), .bool false, .str ⟨2, 13945⟩, .int .i64 (Int.ofNat 8), .bool false, .str ⟨2, 14201⟩, .int .i64 (Int.ofNat 9), .bool false, .str ⟨2, 14457⟩, .int .i64 (Int.ofNat 10), .bool false]),
  (500, .cells [.int .i64 (Int.ofNat 3), .sl 487 0 1 (.ex 1), .bool false, .bool false, .bool false, .bool false, .int .i64 (Int.ofNat 0), .int .i64 (Int.ofNat 0), .sl 541 0 11 (.op 3), .nils, .int .i64 (Int.ofNat 1), .bool true, .int .i64 (Int.ofNat 0)]),
  (487, .cells [.int .i64 (Int.ofNat 0), .int .i64 (Int.ofNat 10)]),
  (485, .cells [.str ⟨1, 65⟩])], 706⟩
def kn10 : List (Nat × List Con) := [(25, [k0, k2, k3, k4, k5, k6, k7, k8, k9]), (12, [k1])]
theorem g10 : ∀ p ∈ kn10, Go.Og.Good Tryz.prog glob p.1 p.2 := by
  unfold kn10
  simp only [List.forall_mem_cons]
  exact ⟨(show Go.Og.Good _ _ 25 [k0, k2, k3, k4, k5, k6, k7, k8, k9] from by unfold Go.Og.Good; simp only [List.forall_mem_cons]; exact ⟨x0, x2, x3, x4, x5, x6, x7, x8, x9, fun _ h => nomatch h⟩), (show Go.Og.Good _ _ 12 [k1] from by unfold Go.Og.Good; simp only [List.forall_mem_cons]; exact ⟨x1, fun _ h => nomatch h⟩), fun _ h => nomatch h⟩
theorem r10 : k10.right (denK (BD [] 100000) kn10 60 25) = true := by kernel_rfl
theorem x10 : ∃ F, SoundFn Tryz.prog [] glob 25 F ∧ k10.right F = true := ⟨_, denK_ok (BD_ok [] 100000) globLt (by decide) g10 60 25, r10⟩
/-- ogham/store.read -/
def k11 : Con := ⟨[.str ⟨28, 7193434253841534727363959983534119064050384182847821930869366468685⟩], .tup [.agg [.int .i64 (Int.ofNat 0), .str t19, .str ⟨2, 12365⟩, .nils, .nils, .nils], .int .i64 (Int.ofNat 0), .int .i64 (Int.ofNat 0)],
  [], 65⟩
def kn11 : List (Nat × List Con) := [(25, [k0, k2, k3, k4, k5, k6, k7, k8, k9, k10]), (12, [k1])]
theorem g11 : ∀ p ∈ kn11, Go.Og.Good Tryz.prog glob p.1 p.2 := by
  unfold kn11
  simp only [List.forall_mem_cons]
  exact ⟨(show Go.Og.Good _ _ 25 [k0, k2, k3, k4, k5, k6, k7, k8, k9, k10] from by unfold Go.Og.Good; simp only [List.forall_mem_cons]; exact ⟨x0, x2, x3, x4, x5, x6, x7, x8, x9, x10, fun _ h => nomatch h⟩), (show Go.Og.Good _ _ 12 [k1] from by unfold Go.Og.Good; simp only [List.forall_mem_cons]; exact ⟨x1, fun _ h => nomatch h⟩), fun _ h => nomatch h⟩
theorem r11 : k11.right (denK (BD [] 100000) kn11 60 25) = true := by kernel_rfl
theorem x11 : ∃ F, SoundFn Tryz.prog [] glob 25 F ∧ k11.right F = true := ⟨_, denK_ok (BD_ok [] 100000) globLt (by decide) g11 60 25, r11⟩
/-- ogham/store.read -/
def k12 : Con := ⟨[.str ⟨28, 7193434253841534727363959983534119064050384182847821930869366468941⟩], .tup [.agg [.int .i64 (Int.ofNat 0), .str t20, .str ⟨2, 12621⟩, .nils, .nils, .nils], .int .i64 (Int.ofNat 0), .int .i64 (Int.ofNat 0)],
  [], 65⟩
def kn12 : List (Nat × List Con) := [(25, [k0, k2, k3, k4, k5, k6, k7, k8, k9, k10, k11]), (12, [k1])]
theorem g12 : ∀ p ∈ kn12, Go.Og.Good Tryz.prog glob p.1 p.2 := by
  unfold kn12
  simp only [List.forall_mem_cons]
  exact ⟨(show Go.Og.Good _ _ 25 [k0, k2, k3, k4, k5, k6, k7, k8, k9, k10, k11] from by unfold Go.Og.Good; simp only [List.forall_mem_cons]; exact ⟨x0, x2, x3, x4, x5, x6, x7, x8, x9, x10, x11, fun _ h => nomatch h⟩), (show Go.Og.Good _ _ 12 [k1] from by unfold Go.Og.Good; simp only [List.forall_mem_cons]; exact ⟨x1, fun _ h => nomatch h⟩), fun _ h => nomatch h⟩
theorem r12 : k12.right (denK (BD [] 100000) kn12 60 25) = true := by kernel_rfl
theorem x12 : ∃ F, SoundFn Tryz.prog [] glob 25 F ∧ k12.right F = true := ⟨_, denK_ok (BD_ok [] 100000) globLt (by decide) g12 60 25, r12⟩
/-- ogham/store.read -/
def k13 : Con := ⟨[.str ⟨28, 7193434253841534727363959983534119064050384182847821930869366469197⟩], .tup [.agg [.int .i64 (Int.ofNat 0), .str t21, .str ⟨2, 12877⟩, .nils, .nils, .nils], .int .i64 (Int.ofNat 0), .int .i64 (Int.ofNat 0)],
  [], 65⟩
def kn13 : List (Nat × List Con) := [(25, [k0, k2, k3, k4, k5, k6, k7, k8, k9, k10, k11, k12]), (12, [k1])]
theorem g13 : ∀ p ∈ kn13, Go.Og.Good Tryz.prog glob p.1 p.2 := by
  unfold kn13
  simp only [List.forall_mem_cons]
  exact ⟨(show Go.Og.Good _ _ 25 [k0, k2, k3, k4, k5, k6, k7, k8, k9, k10, k11, k12] from by unfold Go.Og.Good; simp only [List.forall_mem_cons]; exact ⟨x0, x2, x3, x4, x5, x6, x7, x8, x9, x10, x11, x12, fun _ h => nomatch h⟩), (show Go.Og.Good _ _ 12 [k1] from by unfold Go.Og.Good; simp only [List.forall_mem_cons]; exact ⟨x1, fun _ h => nomatch h⟩), fun _ h => nomatch h⟩
theorem r13 : k13.right (denK (BD [] 100000) kn13 60 25) = true := by kernel_rfl
theorem x13 : ∃ F, SoundFn Tryz.prog [] glob 25 F ∧ k13.right F = true := ⟨_, denK_ok (BD_ok [] 100000) globLt (by decide) g13 60 25, r13⟩
/-- ogham/store.read -/
def k14 : Con := ⟨[.str ⟨28, 7193434253841534727363959983534119064050384182847821930869366469453⟩], .tup [.agg [.int .i64 (Int.ofNat 0), .str t22, .str ⟨2, 13133⟩, .nils, .nils, .nils], .int .i64 (Int.ofNat 0), .int .i64 (Int.ofNat 0)],
  [], 65⟩
def kn14 : List (Nat × List Con) := [(25, [k0, k2, k3, k4, k5, k6, k7, k8, k9, k10, k11, k12, k13]), (12, [k1])]
theorem g14 : ∀ p ∈ kn14, Go.Og.Good Tryz.prog glob p.1 p.2 := by
  unfold kn14
  simp only [List.forall_mem_cons]
  exact ⟨(show Go.Og.Good _ _ 25 [k0, k2, k3, k4, k5, k6, k7, k8, k9, k10, k11, k12, k13] from by unfold Go.Og.Good; simp only [List.forall_mem_cons]; exact ⟨x0, x2, x3, x4, x5, x6, x7, x8, x9, x10, x11, x12, x13, fun _ h => nomatch h⟩), (show Go.Og.Good _ _ 12 [k1] from by unfold Go.Og.Good; simp only [List.forall_mem_cons]; exact ⟨x1, fun _ h => nomatch h⟩), fun _ h => nomatch h⟩
theorem r14 : k14.right (denK (BD [] 100000) kn14 60 25) = true := by kernel_rfl
theorem x14 : ∃ F, SoundFn Tryz.prog [] glob 25 F ∧ k14.right F = true := ⟨_, denK_ok (BD_ok [] 100000) globLt (by decide) g14 60 25, r14⟩
/-- ogham/store.read -/
def k15 : Con := ⟨[.str ⟨28, 7193434253841534727363959983534119064050384182847821930869366469709⟩], .tup [.agg [.int .i64 (Int.ofNat 0), .str t23, .str ⟨2, 13389⟩, .nils, .nils, .nils], .int .i64 (Int.ofNat 0), .int .i64 (Int.ofNat 0)],
  [], 65⟩
def kn15 : List (Nat × List Con) := [(25, [k0, k2, k3, k4, k5, k6, k7, k8, k9, k10, k11, k12, k13, k14]), (12, [k1])]
theorem g15 : ∀ p ∈ kn15, Go.Og.Good Tryz.prog glob p.1 p.2 := by
  unfold kn15
  simp only [List.forall_mem_cons]
  exact ⟨(show Go.Og.Good _ _ 25 [k0, k2, k3, k4, k5, k6, k7, k8, k9, k10, k11, k12, k13, k14] from by unfold Go.Og.Good; simp only [List.forall_mem_cons]; exact ⟨x0, x2, x3, x4, x5, x6, x7, x8, x9, x10, x11, x12, x13, x14, fun _ h => nomatch h⟩), (show Go.Og.Good _ _ 12 [k1] from by unfold Go.Og.Good; simp only [List.forall_mem_cons]; exact ⟨x1, fun _ h => nomatch h⟩), fun _ h => nomatch h⟩
theorem r15 : k15.right (denK (BD [] 100000) kn15 60 25) = true := by kernel_rfl
theorem x15 : ∃ F, SoundFn Tryz.prog [] glob 25 F ∧ k15.right F = true := ⟨_, denK_ok (BD_ok [] 100000) globLt (by decide) g15 60 25, r15⟩
/-- ogham/store.read -/
def k16 : Con := ⟨[.str ⟨28, 7193434253841534727363959983534119064050384182847821930869366469965⟩], .tup [.agg [.int .i64 (Int.ofNat 0), .str t24, .str ⟨2, 13645⟩, .nils, .nils, .nils], .int .i64 (Int.ofNat 0), .int .i64 (Int.ofNat 0)],
  [], 65⟩
def kn16 : List (Nat × List Con) := [(25, [k0, k2, k3, k4, k5, k6, k7, k8, k9, k10, k11, k12, k13, k14, k15]), (12, [k1])]
theorem g16 : ∀ p ∈ kn16, Go.Og.Good Tryz.prog glob p.1 p.2 := by
  unfold kn16
  simp only [List.forall_mem_cons]
  exact ⟨(show Go.Og.Good _ _ 25 [k0, k2, k3, k4, k5, k6, k7, k8, k9, k10, k11, k12, k13, k14, k15] from by unfold Go.Og.Good; simp only [List.forall_mem_cons]; exact ⟨x0, x2, x3, x4, x5, x6, x7, x8, x9, x10, x11, x12, x13, x14, x15, fun _ h => nomatch h⟩), (show Go.Og.Good _ _ 12 [k1] from by unfold Go.Og.Good; simp only [List.forall_mem_cons]; exact ⟨x1, fun _ h => nomatch h⟩), fun _ h => nomatch h⟩
theorem r16 : k16.right (denK (BD [] 100000) kn16 60 25) = true := by kernel_rfl
theorem x16 : ∃ F, SoundFn Tryz.prog [] glob 25 F ∧ k16.right F = true := ⟨_, denK_ok (BD_ok [] 100000) globLt (by decide) g16 60 25, r16⟩
/-- ogham/store.read -/
def k17 : Con := ⟨[.str ⟨28, 7193434253841534727363959983534119064050384182847821930869366470221⟩], .tup [.agg [.int .i64 (Int.ofNat 0), .str t25, .str ⟨2, 13901⟩, .nils, .nils, .nils], .int .i64 (Int.ofNat 0), .int .i64 (Int.ofNat 0)],
  [], 65⟩
def kn17 : List (Nat × List Con) := [(25, [k0, k2, k3, k4, k5, k6, k7, k8, k9, k10, k11, k12, k13, k14, k15, k16]), (12, [k1])]
theorem g17 : ∀ p ∈ kn17, Go.Og.Good Tryz.prog glob p.1 p.2 := by
  unfold kn17
  simp only [List.forall_mem_cons]
  exact ⟨(show Go.Og.Good _ _ 25 [k0, k2, k3, k4, k5, k6, k7, k8, k9, k10, k11, k12, k13, k14, k15, k16] from by unfold Go.Og.Good; simp only [List.forall_mem_cons]; exact ⟨x0, x2, x3, x4, x5, x6, x7, x8, x9, x10, x11, x12, x13, x14, x15, x16, fun _ h => nomatch h⟩), (show Go.Og.Good _ _ 12 [k1] from by unfold Go.Og.Good; simp only [List.forall_mem_cons]; exact ⟨x1, fun _ h => nomatch h⟩), fun _ h => nomatch h⟩
theorem r17 : k17.right (denK (BD [] 100000) kn17 60 25) = true := by kernel_rfl
theorem x17 : ∃ F, SoundFn Tryz.prog [] glob 25 F ∧ k17.right F = true := ⟨_, denK_ok (BD_ok [] 100000) globLt (by decide) g17 60 25, r17⟩
/-- ogham/store.read -/
def k18 : Con := ⟨[.str ⟨28, 7193434253841534727363959983534119064050384182847821930869366470477⟩], .tup [.agg [.int .i64 (Int.ofNat 0), .str t26, .str ⟨2, 14157⟩, .nils, .nils, .nils], .int .i64 (Int.ofNat 0), .int .i64 (Int.ofNat 0)],
  [], 65⟩
def kn18 : List (Nat × List Con) := [(25, [k0, k2, k3, k4, k5, k6, k7, k8, k9, k10, k11, k12, k13, k14, k15, k16, k17]), (12, [k1])]
theorem g18 : ∀ p ∈ kn18, Go.Og.Good Tryz.prog glob p.1 p.2 := by
  unfold kn18
  simp only [List.forall_mem_cons]
  exact ⟨(show Go.Og.Good _ _ 25 [k0, k2, k3, k4, k5, k6, k7, k8, k9, k10, k11, k12, k13, k14, k15, k16, k17] from by unfold Go.Og.Good; simp only [List.forall_mem_cons]; exact ⟨x0, x2, x3, x4, x5, x6, x7, x8, x9, x10, x11, x12, x13, x14, x15, x16, x17, fun _ h => nomatch h⟩), (show Go.Og.Good _ _ 12 [k1] from by unfold Go.Og.Good; simp only [List.forall_mem_cons]; exact ⟨x1, fun _ h => nomatch h⟩), fun _ h => nomatch h⟩
theorem r18 : k18.right (denK (BD [] 100000) kn18 60 25) = true := by kernel_rfl
theorem x18 : ∃ F, SoundFn Tryz.prog [] glob 25 F ∧ k18.right F = true := ⟨_, denK_ok (BD_ok [] 100000) globLt (by decide) g18 60 25, r18⟩
/-- ogham/store.read -/
def k19 : Con := ⟨[.str ⟨28, 7193434253841534727363959983534119064050384182847821930869366470733⟩], .tup [.agg [.int .i64 (Int.ofNat 0), .str t27, .str ⟨2, 14413⟩, .nils, .nils, .nils], .int .i64 (Int.ofNat 0), .int .i64 (Int.ofNat 0)],
  [], 65⟩
def kn19 : List (Nat × List Con) := [(25, [k0, k2, k3, k4, k5, k6, k7, k8, k9, k10, k11, k12, k13, k14, k15, k16, k17, k18]), (12, [k1])]
theorem g19 : ∀ p ∈ kn19, Go.Og.Good Tryz.prog glob p.1 p.2 := by
  unfold kn19
  simp only [List.forall_mem_cons]
  exact ⟨(show Go.Og.Good _ _ 25 [k0, k2, k3, k4, k5, k6, k7, k8, k9, k10, k11, k12, k13, k14, k15, k16, k17, k18] from by unfold Go.Og.Good; simp only [List.forall_mem_cons]; exact ⟨x0, x2, x3, x4, x5, x6, x7, x8, x9, x10, x11, x12, x13, x14, x15, x16, x17, x18, fun _ h => nomatch h⟩), (show Go.Og.Good _ _ 12 [k1] from by unfold Go.Og.Good; simp only [List.forall_mem_cons]; exact ⟨x1, fun _ h => nomatch h⟩), fun _ h => nomatch h⟩
theorem r19 : k19.right (denK (BD [] 100000) kn19 60 25) = true := by kernel_rfl
theorem x19 : ∃ F, SoundFn Tryz.prog [] glob 25 F ∧ k19.right F = true := ⟨_, denK_ok (BD_ok [] 100000) globLt (by decide) g19 60 25, r19⟩
def kn : List (Nat × List Con) := [(25, [k0, k2, k3, k4, k5, k6, k7, k8, k9, k10, k11, k12, k13, k14, k15, k16, k17, k18, k19]), (12, [k1])]
theorem kn_ok : ∀ p ∈ kn, Go.Og.Good Tryz.prog glob p.1 p.2 := by
  unfold kn
  simp only [List.forall_mem_cons]
  exact ⟨(show Go.Og.Good _ _ 25 [k0, k2, k3, k4, k5, k6, k7, k8, k9, k10, k11, k12, k13, k14, k15, k16, k17, k18, k19] from by unfold Go.Og.Good; simp only [List.forall_mem_cons]; exact ⟨x0, x2, x3, x4, x5, x6, x7, x8, x9, x10, x11, x12, x13, x14, x15, x16, x17, x18, x19, fun _ h => nomatch h⟩), (show Go.Og.Good _ _ 12 [k1] from by unfold Go.Og.Good; simp only [List.forall_mem_cons]; exact ⟨x1, fun _ h => nomatch h⟩), fun _ h => nomatch h⟩
theorem DK_ok (d f : Nat) : SoundFn Tryz.prog [] glob f (denK (BD [] 100000) kn d f) := denK_ok (BD_ok [] 100000) globLt (by decide) kn_ok d f
end
end Go.Proofs.YthkkkmkcjgaghaaGreatDoor.storeFull
