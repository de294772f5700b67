/- What is known of calls whose arguments hold no address. Printed by a program; each is proved here. No condition. -/
import Derived.Test.YthkkkmkcjgaghaaGreatDoorAD
set_option linter.all false
set_option maxRecDepth 100000
set_option maxHeartbeats 0
namespace Go.Proofs.YthkkkmkcjgaghaaGreatDoor.auditRules
open Go Go.Og
noncomputable section
def t0 : BS := ⟨71, 38746590263310120872643276746253050464877803749405709464991442325599067460695543557342831714871876136235332063455291317383499789406299176590047585038155264466068126576710⟩
def t1 : BS := ⟨75, 166415338012428998368676704994910632136810837759780699458569375057736584963156107953419888736244804159636982861694379583936882581139887995954495320868450072280278490840870888157254⟩
def t2 : BS := ⟨71, 38746590263310120872643276746253050464877803749405709464991442325599067460695543557342831714871876136235332063455291317383499789406299176590047585038155264466068126576966⟩
def t3 : BS := ⟨75, 166415338012428998368676704994910632136810837759780699458569375057736584963156107953419888736244804159636982861694379583936882581139887995954495320868450072280278490840870888157510⟩
def t4 : BS := ⟨71, 38746590263310120872643276746253050464877803749405709464991442325599067460695543557342831714871876136235332063455291317383499789406299176590047585038155264466068126577222⟩
def t5 : BS := ⟨75, 166415338012428998368676704994910632136810837759780699458569375057736584963156107953419888736244804159636982861694379583936882581139887995954495320868450072280278490840870888157766⟩
def t6 : BS := ⟨76, 132950913542204203670765728343112067464535090269517761499319603925158626550176216792744045455043566221381969354423319633420581716994316697848334490012515288058238096199689175646089798⟩
def t7 : BS := ⟨91, 56628205110817362963988135051507098794163233148207410308507021414671078800507821552469203834125078595947305016802988378967256130870367805067498230746953820273757487659465236856575722753816092814453867649199507171717190⟩
def t8 : BS := ⟨79, 714748434316168190481638180019362447939603608499539918401069203117498967213208068076834682012209235710452545592913887040088608239685424333685753148684278436634153731528831177454037841752134⟩
def t9 : BS := ⟨79, 714748434316168190481638180019362447939603608499539918401069203117498967213208068076834682012209235710452545592913887040088608239685424333685753148684278436634153731528831177454037841752390⟩
def t10 : BS := ⟨79, 714748434316168190481638180019362447939603608499539918401069203117498967213208068076834682012209235710452545592913887040088608239685424333685753148684278436634153731528831177454037841752646⟩
def t11 : BS := ⟨95, 243216288982140630088049159701572660782176998981228368061351987984040528155353863316162109507834494952160592466193304348983520250905766671102296014105794634763022292715327346551957147684720375371105608757940073872768307304607814⟩
def t12 : BS := ⟨83, 3069821150255146506303650041535249700452689381869587194174466981159385039787524464337726605328157055019335089623504809439440735522975426648955590980097992063957832485648179142926502049533506598481990⟩
def t13 : BS := ⟨83, 3069821150255146506303650041535249700452689381869587194174466981159385039787524464337726605328157055019335089623504809439440735522975426648955590980097992063957832485648179142926502049533506598482246⟩
def t14 : BS := ⟨83, 3069821150255146506303650041535249700452689381869587194174466981159385039787524464337726605328157055019335089623504809439440735522975426648955590980097992063957832485648179142926502049533506598482502⟩
def t15 : BS := ⟨99, 1044606007032779135713011721041402940225024807359519967330689085623288861129169605791651145307221992546253263289036545558195461855987081433214839016880826154722488326639715160773312929244744767319575686758401212577158414588911256512507974⟩
def t16 : BS := ⟨87, 13184781444914956318084868440559154737302301214924684624024386872346460280520992866467517243486809971185597691740450220768422308631239989817659288441638957536010879878326351845773475385799404834003245338734662⟩
def t17 : BS := ⟨87, 13184781444914956318084868440559154737302301214924684624024386872346460280520992866467517243486809971185597691740450220768422308631239989817659288441638957536010879878326351845773475385799404834003245338734918⟩
def t18 : BS := ⟨87, 13184781444914956318084868440559154737302301214924684624024386872346460280520992866467517243486809971185597691740450220768422308631239989817659288441638957536010879878326351845773475385799404834003245338735174⟩
def t19 : BS := ⟨103, 4486548637410932393943054782999151947833292797602361797468227852857996947460040934814972948408102819564809498592636097122108589247884902801147375469755123346359054001111998884602608520159784314205859563418338120145200272836832556756006731568394310⟩
def gcl : List Nat := [35, 36, 37, 38, 63, 64, 10]
def k0 : Con := ⟨[], .bool true,
  [], 17⟩
def k1 : Con := ⟨[.str t0], .tup [.agg [.str ⟨2, 12358⟩, .int .i64 (Int.ofNat 0), .sl 201 0 1 (.op 1), .sl 202 0 1 (.op 1), .sl 151 0 1 (.op 16)], .int .i64 (Int.ofNat 0), .int .i64 (Int.ofNat 0)],
  [(202, .cells [.int .i64 (Int.ofNat 0)]),
  (201, .cells [.str ⟨1, 65⟩]),
  (172, .cells [.str ⟨1, 97⟩, .int .i64 (Int.ofNat 0), .bool false]),
  (151, .cells [.int .i64 (Int.ofNat 3), .str ⟨0, 0⟩, .bool false, .int .i64 (Int.ofNat 0), .int .i64 (Int.ofNat 0), .bool false, .bool false, .bool false, .bool false, .int .i64 (Int.ofNat 0), .int .i64 (Int.ofNat 0), .sl 172 0 1 (.op 3), .nils, .int .i64 (Int.ofNat 1), .bool true, .int .i64 (Int.ofNat 0)])], 106⟩
def k2 : Con := ⟨[.str t1], .tup [.agg [.str ⟨2, 12358⟩, .int .i64 (Int.ofNat 0), .sl 223 0 1 (.op 1), .sl 224 0 1 (.op 1), .sl 156 0 1 (.op 16)], .int .i64 (Int.ofNat 0), .int .i64 (Int.ofNat 0)],
  [(224, .cells [.int .i64 (Int.ofNat 0)]),
  (223, .cells [.str ⟨1, 65⟩]),
  (194, .cells [.str ⟨1, 97⟩, .int .i64 (Int.ofNat 0), .bool false, .str ⟨2, 12408⟩, .int .i64 (Int.ofNat 0), .bool false]),
  (156, .cells [.int .i64 (Int.ofNat 3), .str ⟨0, 0⟩, .bool false, .int .i64 (Int.ofNat 0), .int .i64 (Int.ofNat 0), .bool false, .bool false, .bool false, .bool false, .int .i64 (Int.ofNat 0), .int .i64 (Int.ofNat 0), .sl 194 0 2 (.op 3), .nils, .int .i64 (Int.ofNat 1), .bool true, .int .i64 (Int.ofNat 0)])], 128⟩
def k3 : Con := ⟨[.str ⟨2, 12358⟩, .str t0], .bool true,
  [], 152⟩
def k4 : Con := ⟨[.str ⟨2, 12358⟩, .str t1], .bool true,
  [], 188⟩
def k5 : Con := ⟨[.str t2], .tup [.agg [.str ⟨2, 12614⟩, .int .i64 (Int.ofNat 0), .sl 201 0 1 (.op 1), .sl 202 0 1 (.op 1), .sl 151 0 1 (.op 16)], .int .i64 (Int.ofNat 0), .int .i64 (Int.ofNat 0)],
  [(202, .cells [.int .i64 (Int.ofNat 0)]),
  (201, .cells [.str ⟨1, 65⟩]),
  (172, .cells [.str ⟨1, 97⟩, .int .i64 (Int.ofNat 0), .bool false]),
  (151, .cells [.int .i64 (Int.ofNat 3), .str ⟨0, 0⟩, .bool false, .int .i64 (Int.ofNat 0), .int .i64 (Int.ofNat 0), .bool false, .bool false, .bool false, .bool false, .int .i64 (Int.ofNat 0), .int .i64 (Int.ofNat 0), .sl 172 0 1 (.op 3), .nils, .int .i64 (Int.ofNat 1), .bool true, .int .i64 (Int.ofNat 0)])], 106⟩
def k6 : Con := ⟨[.str t3], .tup [.agg [.str ⟨2, 12614⟩, .int .i64 (Int.ofNat 0), .sl 223 0 1 (.op 1), .sl 224 0 1 (.op 1), .sl 156 0 1 (.op 16)], .int .i64 (Int.ofNat 0), .int .i64 (Int.ofNat 0)],
  [(224, .cells [.int .i64 (Int.ofNat 0)]),
  (223, .cells [.str ⟨1, 65⟩]),
  (194, .cells [.str ⟨1, 97⟩, .int .i64 (Int.ofNat 0), .bool false, .str ⟨2, 12408⟩, .int .i64 (Int.ofNat 0), .bool false]),
  (156, .cells [.int .i64 (Int.ofNat 3), .str ⟨0, 0⟩, .bool false, .int .i64 (Int.ofNat 0), .int .i64 (Int.ofNat 0), .bool false, .bool false, .bool false, .bool false, .int .i64 (Int.ofNat 0), .int .i64 (Int.ofNat 0), .sl 194 0 2 (.op 3), .nils, .int .i64 (Int.ofNat 1), .bool true, .int .i64 (Int.ofNat 0)])], 128⟩
def k7 : Con := ⟨[.str ⟨2, 12614⟩, .str t2], .bool true,
  [], 152⟩
def k8 : Con := ⟨[.str ⟨2, 12614⟩, .str t3], .bool true,
  [], 188⟩
def k9 : Con := ⟨[.str t4], .tup [.agg [.str ⟨2, 12870⟩, .int .i64 (Int.ofNat 0), .sl 201 0 1 (.op 1), .sl 202 0 1 (.op 1), .sl 151 0 1 (.op 16)], .int .i64 (Int.ofNat 0), .int .i64 (Int.ofNat 0)],
  [(202, .cells [.int .i64 (Int.ofNat 0)]),
  (201, .cells [.str ⟨1, 65⟩]),
  (172, .cells [.str ⟨1, 97⟩, .int .i64 (Int.ofNat 0), .bool false]),
  (151, .cells [.int .i64 (Int.ofNat 3), .str ⟨0, 0⟩, .bool false, .int .i64 (Int.ofNat 0), .int .i64 (Int.ofNat 0), .bool false, .bool false, .bool false, .bool false, .int .i64 (Int.ofNat 0), .int .i64 (Int.ofNat 0), .sl 172 0 1 (.op 3), .nils, .int .i64 (Int.ofNat 1), .bool true, .int .i64 (Int.ofNat 0)])], 106⟩
def k10 : Con := ⟨[.str t5], .tup [.agg [.str ⟨2, 12870⟩, .int .i64 (Int.ofNat 0), .sl 223 0 1 (.op 1), .sl 224 0 1 (.op 1), .sl 156 0 1 (.op 16)], .int .i64 (Int.ofNat 0), .int .i64 (Int.ofNat 0)],
  [(224, .cells [.int .i64 (Int.ofNat 0)]),
  (223, .cells [.str ⟨1, 65⟩]),
  (194, .cells [.str ⟨1, 97⟩, .int .i64 (Int.ofNat 0), .bool false, .str ⟨2, 12408⟩, .int .i64 (Int.ofNat 0), .bool false]),
  (156, .cells [.int .i64 (Int.ofNat 3), .str ⟨0, 0⟩, .bool false, .int .i64 (Int.ofNat 0), .int .i64 (Int.ofNat 0), .bool false, .bool false, .bool false, .bool false, .int .i64 (Int.ofNat 0), .int .i64 (Int.ofNat 0), .sl 194 0 2 (.op 3), .nils, .int .i64 (Int.ofNat 1), .bool true, .int .i64 (Int.ofNat 0)])], 128⟩
def k11 : Con := ⟨[.str ⟨2, 12870⟩, .str t4], .bool true,
  [], 152⟩
def k12 : Con := ⟨[.str ⟨2, 12870⟩, .str t5], .bool true,
  [], 188⟩
def k13 : Con := ⟨[.str t6], .tup [.agg [.str ⟨2, 12870⟩, .int .i64 (Int.ofNat 0), .sl 223 0 1 (.op 1), .sl 224 0 1 (.op 1), .sl 156 0 1 (.op 16)], .int .i64 (Int.ofNat 0), .int .i64 (Int.ofNat 0)],
  [(224, .cells [.int .i64 (Int.ofNat 0)]),
  (223, .cells [.str ⟨1, 65⟩]),
  (194, .cells [.str ⟨1, 97⟩, .int .i64 (Int.ofNat 0), .bool false, .str ⟨2, 12408⟩, .int .i64 (Int.ofNat 0), .bool false]),
  (156, .cells [.int .i64 (Int.ofNat 3), .str ⟨0, 0⟩, .bool false, .int .i64 (Int.ofNat 0), .int .i64 (Int.ofNat 0), .bool false, .bool false, .bool false, .bool false, .int .i64 (Int.ofNat 0), .int .i64 (Int.ofNat 0), .sl 194 0 2 (.op 3), .nils, .int .i64 (Int.ofNat 1), .bool true, .int .i64 (Int.ofNat 0)])], 128⟩
def k14 : Con := ⟨[.str ⟨2, 12870⟩, .str t6], .bool false,
  [], 188⟩
def k15 : Con := ⟨[.str t7], .tup [.agg [.str ⟨2, 12358⟩, .int .i64 (Int.ofNat 0), .sl 311 0 1 (.op 1), .sl 312 0 1 (.op 1), .sl 176 0 1 (.op 16)], .int .i64 (Int.ofNat 0), .int .i64 (Int.ofNat 0)],
  [(312, .cells [.int .i64 (Int.ofNat 0)]),
  (311, .cells [.str ⟨1, 65⟩]),
  (282, .cells [.str ⟨1, 97⟩, .int .i64 (Int.ofNat 0), .bool false, .str ⟨2, 12408⟩, .int .i64 (Int.ofNat 0), .bool false, .str ⟨2, 12664⟩, .int .i64 (Int.ofNat 0), .bool false, .str ⟨2, 12920⟩, .int .i64 (Int.ofNat 0), .bool false, .str ⟨2, 13176⟩, .int .i64 (Int.ofNat 0), .bool false, .str ⟨2, 13432⟩, .int .i64 (Int.ofNat 0), .bool false]),
  (176, .cells [.int .i64 (Int.ofNat 3), .str ⟨0, 0⟩, .bool false, .int .i64 (Int.ofNat 0), .int .i64 (Int.ofNat 0), .bool false, .bool false, .bool false, .bool false, .int .i64 (Int.ofNat 0), .int .i64 (Int.ofNat 0), .sl 282 0 6 (.op 3), .nils, .int .i64 (Int.ofNat 1), .bool true, .int .i64 (Int.ofNat 0)])], 216⟩
def k16 : Con := ⟨[.str ⟨2, 12358⟩, .str t7], .bool true,
  [], 332⟩
def k17 : Con := ⟨[.str t8], .tup [.agg [.str ⟨2, 12358⟩, .int .i64 (Int.ofNat 0), .sl 245 0 1 (.op 1), .sl 246 0 1 (.op 1), .sl 161 0 1 (.op 16)], .int .i64 (Int.ofNat 0), .int .i64 (Int.ofNat 0)],
  [(246, .cells [.int .i64 (Int.ofNat 0)]),
  (245, .cells [.str ⟨1, 65⟩]),
  (216, .cells [.str ⟨1, 97⟩, .int .i64 (Int.ofNat 0), .bool false, .str ⟨2, 12408⟩, .int .i64 (Int.ofNat 0), .bool false, .str ⟨2, 12664⟩, .int .i64 (Int.ofNat 0), .bool false]),
  (161, .cells [.int .i64 (Int.ofNat 3), .str ⟨0, 0⟩, .bool false, .int .i64 (Int.ofNat 0), .int .i64 (Int.ofNat 0), .bool false, .bool false, .bool false, .bool false, .int .i64 (Int.ofNat 0), .int .i64 (Int.ofNat 0), .sl 216 0 3 (.op 3), .nils, .int .i64 (Int.ofNat 1), .bool true, .int .i64 (Int.ofNat 0)])], 150⟩
def k18 : Con := ⟨[.str ⟨2, 12358⟩, .str t8], .bool true,
  [], 224⟩
def k19 : Con := ⟨[.str t9], .tup [.agg [.str ⟨2, 12614⟩, .int .i64 (Int.ofNat 0), .sl 245 0 1 (.op 1), .sl 246 0 1 (.op 1), .sl 161 0 1 (.op 16)], .int .i64 (Int.ofNat 0), .int .i64 (Int.ofNat 0)],
  [(246, .cells [.int .i64 (Int.ofNat 0)]),
  (245, .cells [.str ⟨1, 65⟩]),
  (216, .cells [.str ⟨1, 97⟩, .int .i64 (Int.ofNat 0), .bool false, .str ⟨2, 12408⟩, .int .i64 (Int.ofNat 0), .bool false, .str ⟨2, 12664⟩, .int .i64 (Int.ofNat 0), .bool false]),
  (161, .cells [.int .i64 (Int.ofNat 3), .str ⟨0, 0⟩, .bool false, .int .i64 (Int.ofNat 0), .int .i64 (Int.ofNat 0), .bool false, .bool false, .bool false, .bool false, .int .i64 (Int.ofNat 0), .int .i64 (Int.ofNat 0), .sl 216 0 3 (.op 3), .nils, .int .i64 (Int.ofNat 1), .bool true, .int .i64 (Int.ofNat 0)])], 150⟩
def k20 : Con := ⟨[.str ⟨2, 12614⟩, .str t9], .bool true,
  [], 224⟩
def k21 : Con := ⟨[.str t10], .tup [.agg [.str ⟨2, 12870⟩, .int .i64 (Int.ofNat 0), .sl 245 0 1 (.op 1), .sl 246 0 1 (.op 1), .sl 161 0 1 (.op 16)], .int .i64 (Int.ofNat 0), .int .i64 (Int.ofNat 0)],
  [(246, .cells [.int .i64 (Int.ofNat 0)]),
  (245, .cells [.str ⟨1, 65⟩]),
  (216, .cells [.str ⟨1, 97⟩, .int .i64 (Int.ofNat 0), .bool false, .str ⟨2, 12408⟩, .int .i64 (Int.ofNat 0), .bool false, .str ⟨2, 12664⟩, .int .i64 (Int.ofNat 0), .bool false]),
  (161, .cells [.int .i64 (Int.ofNat 3), .str ⟨0, 0⟩, .bool false, .int .i64 (Int.ofNat 0), .int .i64 (Int.ofNat 0), .bool false, .bool false, .bool false, .bool false, .int .i64 (Int.ofNat 0), .int .i64 (Int.ofNat 0), .sl 216 0 3 (.op 3), .nils, .int .i64 (Int.ofNat 1), .bool true, .int .i64 (Int.ofNat 0)])], 150⟩
def k22 : Con := ⟨[.str ⟨2, 12870⟩, .str t10], .bool true,
  [], 224⟩
def k23 : Con := ⟨[.str t11], .tup [.agg [.str ⟨2, 12358⟩, .int .i64 (Int.ofNat 0), .sl 333 0 1 (.op 1), .sl 334 0 1 (.op 1), .sl 181 0 1 (.op 16)], .int .i64 (Int.ofNat 0), .int .i64 (Int.ofNat 0)],
  [(334, .cells [.int .i64 (Int.ofNat 0)]),
  (333, .cells [.str ⟨1, 65⟩]),
  (304, .cells [.str ⟨1, 97⟩, .int .i64 (Int.ofNat 0), .bool false, .str ⟨2, 12408⟩, .int .i64 (Int.ofNat 0), .bool false, .str ⟨2, 12664⟩, .int .i64 (Int.ofNat 0), .bool false, .str ⟨2, 12920⟩, .int .i64 (Int.ofNat 0), .bool false, .str ⟨2, 13176⟩, .int .i64 (Int.ofNat 0), .bool false, .str ⟨2, 13432⟩, .int .i64 (Int.ofNat 0), .bool false, .str ⟨2, 13688⟩, .int .i64 (Int.ofNat 0), .bool false]),
  (181, .cells [.int .i64 (Int.ofNat 3), .str ⟨0, 0⟩, .bool false, .int .i64 (Int.ofNat 0), .int .i64 (Int.ofNat 0), .bool false, .bool false, .bool false, .bool false, .int .i64 (Int.ofNat 0), .int .i64 (Int.ofNat 0), .sl 304 0 7 (.op 3), .nils, .int .i64 (Int.ofNat 1), .bool true, .int .i64 (Int.ofNat 0)])], 238⟩
def k24 : Con := ⟨[.str ⟨2, 12358⟩, .str t11], .bool true,
  [], 368⟩
def k25 : Con := ⟨[.str t12], .tup [.agg [.str ⟨2, 12358⟩, .int .i64 (Int.ofNat 0), .sl 267 0 1 (.op 1), .sl 268 0 1 (.op 1), .sl 166 0 1 (.op 16)], .int .i64 (Int.ofNat 0), .int .i64 (Int.ofNat 0)],
  [(268, .cells [.int .i64 (Int.ofNat 0)]),
  (267, .cells [.str ⟨1, 65⟩]),
  (238, .cells [.str ⟨1, 97⟩, .int .i64 (Int.ofNat 0), .bool false, .str ⟨2, 12408⟩, .int .i64 (Int.ofNat 0), .bool false, .str ⟨2, 12664⟩, .int .i64 (Int.ofNat 0), .bool false, .str ⟨2, 12920⟩, .int .i64 (Int.ofNat 0), .bool false]),
  (166, .cells [.int .i64 (Int.ofNat 3), .str ⟨0, 0⟩, .bool false, .int .i64 (Int.ofNat 0), .int .i64 (Int.ofNat 0), .bool false, .bool false, .bool false, .bool false, .int .i64 (Int.ofNat 0), .int .i64 (Int.ofNat 0), .sl 238 0 4 (.op 3), .nils, .int .i64 (Int.ofNat 1), .bool true, .int .i64 (Int.ofNat 0)])], 172⟩
def k26 : Con := ⟨[.str ⟨2, 12358⟩, .str t12], .bool true,
  [], 260⟩
def k27 : Con := ⟨[.str t13], .tup [.agg [.str ⟨2, 12614⟩, .int .i64 (Int.ofNat 0), .sl 267 0 1 (.op 1), .sl 268 0 1 (.op 1), .sl 166 0 1 (.op 16)], .int .i64 (Int.ofNat 0), .int .i64 (Int.ofNat 0)],
  [(268, .cells [.int .i64 (Int.ofNat 0)]),
  (267, .cells [.str ⟨1, 65⟩]),
  (238, .cells [.str ⟨1, 97⟩, .int .i64 (Int.ofNat 0), .bool false, .str ⟨2, 12408⟩, .int .i64 (Int.ofNat 0), .bool false, .str ⟨2, 12664⟩, .int .i64 (Int.ofNat 0), .bool false, .str ⟨2, 12920⟩, .int .i64 (Int.ofNat 0), .bool false]),
  (166, .cells [.int .i64 (Int.ofNat 3), .str ⟨0, 0⟩, .bool false, .int .i64 (Int.ofNat 0), .int .i64 (Int.ofNat 0), .bool false, .bool false, .bool false, .bool false, .int .i64 (Int.ofNat 0), .int .i64 (Int.ofNat 0), .sl 238 0 4 (.op 3), .nils, .int .i64 (Int.ofNat 1), .bool true, .int .i64 (Int.ofNat 0)])], 172⟩
def k28 : Con := ⟨[.str ⟨2, 12614⟩, .str t13], .bool true,
  [], 260⟩
def k29 : Con := ⟨[.str t14], .tup [.agg [.str ⟨2, 12870⟩, .int .i64 (Int.ofNat 0), .sl 267 0 1 (.op 1), .sl 268 0 1 (.op 1), .sl 166 0 1 (.op 16)], .int .i64 (Int.ofNat 0), .int .i64 (Int.ofNat 0)],
  [(268, .cells [.int .i64 (Int.ofNat 0)]),
  (267, .cells [.str ⟨1, 65⟩]),
  (238, .cells [.str ⟨1, 97⟩, .int .i64 (Int.ofNat 0), .bool false, .str ⟨2, 12408⟩, .int .i64 (Int.ofNat 0), .bool false, .str ⟨2, 12664⟩, .int .i64 (Int.ofNat 0), .bool false, .str ⟨2, 12920⟩, .int .i64 (Int.ofNat 0), .bool false]),
  (166, .cells [.int .i64 (Int.ofNat 3), .str ⟨0, 0⟩, .bool false, .int .i64 (Int.ofNat 0), .int .i64 (Int.ofNat 0), .bool false, .bool false, .bool false, .bool false, .int .i64 (Int.ofNat 0), .int .i64 (Int.ofNat 0), .sl 238 0 4 (.op 3), .nils, .int .i64 (Int.ofNat 1), .bool true, .int .i64 (Int.ofNat 0)])], 172⟩
def k30 : Con := ⟨[.str ⟨2, 12870⟩, .str t14], .bool true,
  [], 260⟩
def k31 : Con := ⟨[.str t15], .tup [.agg [.str ⟨2, 12358⟩, .int .i64 (Int.ofNat 0), .sl 355 0 1 (.op 1), .sl 356 0 1 (.op 1), .sl 186 0 1 (.op 16)], .int .i64 (Int.ofNat 0), .int .i64 (Int.ofNat 0)],
  [(356, .cells [.int .i64 (Int.ofNat 0)]),
  (355, .cells [.str ⟨1, 65⟩]),
  (326, .cells [.str ⟨1, 97⟩, .int .i64 (Int.ofNat 0), .bool false, .str ⟨2, 12408⟩, .int .i64 (Int.ofNat 0), .bool false, .str ⟨2, 12664⟩, .int .i64 (Int.ofNat 0), .bool false, .str ⟨2, 12920⟩, .int .i64 (Int.ofNat 0), .bool false, .str ⟨2, 13176⟩, .int .i64 (Int.ofNat 0), .bool false, .str ⟨2, 13432⟩, .int .i64 (Int.ofNat 0), .bool false, .str ⟨2, 13688⟩, .int .i64 (Int.ofNat 0), .bool false, .str ⟨2, 13944⟩, .int .i64 (Int.ofNat 0), .bool false]),
  (186, .cells [.int .i64 (Int.ofNat 3), .str ⟨0, 0⟩, .bool false, .int .i64 (Int.ofNat 0), .int .i64 (Int.ofNat 0), .bool false, .bool false, .bool false, .bool false, .int .i64 (Int.ofNat 0), .int .i64 (Int.ofNat 0), .sl 326 0 8 (.op 3), .nils, .int .i64 (Int.ofNat 1), .bool true, .int .i64 (Int.ofNat 0)])], 260⟩
def k32 : Con := ⟨[.str ⟨2, 12358⟩, .str t15], .bool true,
  [], 404⟩
def k33 : Con := ⟨[.str t16], .tup [.agg [.str ⟨2, 12358⟩, .int .i64 (Int.ofNat 0), .sl 289 0 1 (.op 1), .sl 290 0 1 (.op 1), .sl 171 0 1 (.op 16)], .int .i64 (Int.ofNat 0), .int .i64 (Int.ofNat 0)],
  [(290, .cells [.int .i64 (Int.ofNat 0)]),
  (289, .cells [.str ⟨1, 65⟩]),
  (260, .cells [.str ⟨1, 97⟩, .int .i64 (Int.ofNat 0), .bool false, .str ⟨2, 12408⟩, .int .i64 (Int.ofNat 0), .bool false, .str ⟨2, 12664⟩, .int .i64 (Int.ofNat 0), .bool false, .str ⟨2, 12920⟩, .int .i64 (Int.ofNat 0), .bool false, .str ⟨2, 13176⟩, .int .i64 (Int.ofNat 0), .bool false]),
  (171, .cells [.int .i64 (Int.ofNat 3), .str ⟨0, 0⟩, .bool false, .int .i64 (Int.ofNat 0), .int .i64 (Int.ofNat 0), .bool false, .bool false, .bool false, .bool false, .int .i64 (Int.ofNat 0), .int .i64 (Int.ofNat 0), .sl 260 0 5 (.op 3), .nils, .int .i64 (Int.ofNat 1), .bool true, .int .i64 (Int.ofNat 0)])], 194⟩
def k34 : Con := ⟨[.str ⟨2, 12358⟩, .str t16], .bool true,
  [], 296⟩
def k35 : Con := ⟨[.str t17], .tup [.agg [.str ⟨2, 12614⟩, .int .i64 (Int.ofNat 0), .sl 289 0 1 (.op 1), .sl 290 0 1 (.op 1), .sl 171 0 1 (.op 16)], .int .i64 (Int.ofNat 0), .int .i64 (Int.ofNat 0)],
  [(290, .cells [.int .i64 (Int.ofNat 0)]),
  (289, .cells [.str ⟨1, 65⟩]),
  (260, .cells [.str ⟨1, 97⟩, .int .i64 (Int.ofNat 0), .bool false, .str ⟨2, 12408⟩, .int .i64 (Int.ofNat 0), .bool false, .str ⟨2, 12664⟩, .int .i64 (Int.ofNat 0), .bool false, .str ⟨2, 12920⟩, .int .i64 (Int.ofNat 0), .bool false, .str ⟨2, 13176⟩, .int .i64 (Int.ofNat 0), .bool false]),
  (171, .cells [.int .i64 (Int.ofNat 3), .str ⟨0, 0⟩, .bool false, .int .i64 (Int.ofNat 0), .int .i64 (Int.ofNat 0), .bool false, .bool false, .bool false, .bool false, .int .i64 (Int.ofNat 0), .int .i64 (Int.ofNat 0), .sl 260 0 5 (.op 3), .nils, .int .i64 (Int.ofNat 1), .bool true, .int .i64 (Int.ofNat 0)])], 194⟩
def k36 : Con := ⟨[.str ⟨2, 12614⟩, .str t17], .bool true,
  [], 296⟩
def k37 : Con := ⟨[.str t18], .tup [.agg [.str ⟨2, 12870⟩, .int .i64 (Int.ofNat 0), .sl 289 0 1 (.op 1), .sl 290 0 1 (.op 1), .sl 171 0 1 (.op 16)], .int .i64 (Int.ofNat 0), .int .i64 (Int.ofNat 0)],
  [(290, .cells [.int .i64 (Int.ofNat 0)]),
  (289, .cells [.str ⟨1, 65⟩]),
  (260, .cells [.str ⟨1, 97⟩, .int .i64 (Int.ofNat 0), .bool false, .str ⟨2, 12408⟩, .int .i64 (Int.ofNat 0), .bool false, .str ⟨2, 12664⟩, .int .i64 (Int.ofNat 0), .bool false, .str ⟨2, 12920⟩, .int .i64 (Int.ofNat 0), .bool false, .str ⟨2, 13176⟩, .int .i64 (Int.ofNat 0), .bool false]),
  (171, .cells [.int .i64 (Int.ofNat 3), .str ⟨0, 0⟩, .bool false, .int .i64 (Int.ofNat 0), .int .i64 (Int.ofNat 0), .bool false, .bool false, .bool false, .bool false, .int .i64 (Int.ofNat 0), .int .i64 (Int.ofNat 0), .sl 260 0 5 (.op 3), .nils, .int .i64 (Int.ofNat 1), .bool true, .int .i64 (Int.ofNat 0)])], 194⟩
def k38 : Con := ⟨[.str ⟨2, 12870⟩, .str t18], .bool true,
  [], 296⟩
def k39 : Con := ⟨[.str t19], .tup [.agg [.str ⟨2, 12358⟩, .int .i64 (Int.ofNat 0), .sl 377 0 1 (.op 1), .sl 378 0 1 (.op 1), .sl 191 0 1 (.op 16)], .int .i64 (Int.ofNat 0), .int .i64 (Int.ofNat 0)],
  [(378, .cells [.int .i64 (Int.ofNat 0)]),
  (377, .cells [.str ⟨1, 65⟩]),
  (348, .cells [.str ⟨1, 97⟩, .int .i64 (Int.ofNat 0), .bool false, .str ⟨2, 12408⟩, .int .i64 (Int.ofNat 0), .bool false, .str ⟨2, 12664⟩, .int .i64 (Int.ofNat 0), .bool false, .str ⟨2, 12920⟩, .int .i64 (Int.ofNat 0), .bool false, .str ⟨2, 13176⟩, .int .i64 (Int.ofNat 0), .bool false, .str ⟨2, 13432⟩, .int .i64 (Int.ofNat 0), .bool false, .str ⟨2, 13688⟩, .int .i64 (Int.ofNat 0), .bool false, .str ⟨2, 13944⟩, .int .i64 (Int.ofNat 0), .bool false, .str ⟨2, 14200⟩, .int .i64 (Int.ofNat 0), .bool false]),
  (191, .cells [.int .i64 (Int.ofNat 3), .str ⟨0, 0⟩, .bool false, .int .i64 (Int.ofNat 0), .int .i64 (Int.ofNat 0), .bool false, .bool false, .bool false, .bool false, .int .i64 (Int.ofNat 0), .int .i64 (Int.ofNat 0), .sl 348 0 9 (.op 3), .nils, .int .i64 (Int.ofNat 1), .bool true, .int .i64 (Int.ofNat 0)])], 282⟩
def k40 : Con := ⟨[.str ⟨2, 12358⟩, .str t19], .bool true,
  [], 440⟩
end
end Go.Proofs.YthkkkmkcjgaghaaGreatDoor.auditRules
