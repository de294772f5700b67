/- What is known of calls whose arguments hold no address. Printed by a program; each is proved here. No condition. -/
import Derived.Test.YtmgbgifepccgpaaGreatDoorD
set_option linter.all false
set_option maxRecDepth 100000
set_option maxHeartbeats 0
namespace Go.Proofs.YtmgbgifepccgpaaGreatDoor.crossUnknown
open Go Go.Og
noncomputable section
def t0 : BS := ⟨179, 31708159984744313595398581348971232899570975911263525731464937200522800489433161916240742032434077246373798126624452986741560997537499567718621586291203601852658455176429016365277041174293320004898404564183242174178100429955249980191637025542112920917822486891487560378519133782059032417458805984947171206205348444572307705104623773999305895245783787943881529382008508418703748634548883707238213415059207370793164340120776794710093⟩
def t1 : BS := ⟨48, 10513215938693142609338414843849125141369443019649302053554332849144046652396032987795422456017691386243615887204429⟩
def gcl : List Nat := [49, 50, 57, 29, 15, 8]
def k0 : Con := ⟨[.int .i64 (Int.ofNat 1)], .str t0,
  [], 1⟩
def k1 : Con := ⟨[.str t0], .tup [.agg [.str ⟨1, 77⟩, .sl 426 0 3 (.op 1), .sl 715 0 3 (.op 1), .sl 698 0 7 (.op 13)], .bool true],
  [(715, .cells [.int .i64 (Int.ofNat 0), .int .i64 (Int.ofNat 3), .int .i64 (Int.ofNat 6)]),
  (714, .cells [.str ⟨1, 97⟩, .int .i64 (Int.ofNat 0), .bool false, .str ⟨2, 12645⟩, .int .i64 (Int.ofNat 1), .bool false]),
  (698, .cells [.int .i64 (Int.ofNat 7), .sl 443 0 1 (.ex 1), .bool false, .bool false, .bool false, .bool false, .int .i64 (Int.ofNat 0), .int .i64 (Int.ofNat 0), .nils, .sl 498 0 2 (.op 11), .int .i64 (Int.ofNat 1), .bool true, .int .i64 (Int.ofNat 0), .int .i64 (Int.ofNat 2), .sl 475 0 1 (.ex 1), .bool false, .bool false, .bool false, .bool false, .int .i64 (Int.ofNat 0), .int .i64 (Int.ofNat 0), .nils, .nils, .int .i64 (Int.ofNat 0), .bool false, .int .i64 (Int.ofNat 0), .int .i64 (Int.ofNat 2), .sl 496 0 1 (.ex 1), .bool false, .bool false, .bool false, .bool false, .int .i64 (Int.ofNat 0), .int .i64 (Int.ofNat 0), .nils, .nils, .int .i64 (Int.ofNat 0), .bool false, .int .i64 (Int.ofNat 0), .int .i64 (Int.ofNat 9), .nils, .bool false, .bool false, .bool false, .bool false, .int .i64 (Int.ofNat 0), .int .i64 (Int.ofNat 0), .nils, .sl 631 0 2 (.op 11), .int .i64 (Int.ofNat 1), .bool true, .int .i64 (Int.ofNat 0), .int .i64 (Int.ofNat 2), .sl 608 0 1 (.ex 1), .bool false, .bool false, .bool false, .bool false, .int .i64 (Int.ofNat 0), .int .i64 (Int.ofNat 0), .nils, .nils, .int .i64 (Int.ofNat 0), .bool false, .int .i64 (Int.ofNat 0), .int .i64 (Int.ofNat 2), .sl 629 0 1 (.ex 1), .bool false, .bool false, .bool false, .bool false, .int .i64 (Int.ofNat 0), .int .i64 (Int.ofNat 0), .nils, .nils, .int .i64 (Int.ofNat 0), .bool false, .int .i64 (Int.ofNat 0), .int .i64 (Int.ofNat 3), .sl 686 0 1 (.ex 1), .bool false, .bool false, .bool false, .bool false, .int .i64 (Int.ofNat 0), .int .i64 (Int.ofNat 0), .sl 714 0 2 (.op 3), .nils, .int .i64 (Int.ofNat 1), .bool true, .int .i64 (Int.ofNat 0)]),
  (686, .cells [.int .i64 (Int.ofNat 0), .int .i64 (Int.ofNat 10)]),
  (631, .cells [.str ⟨1, 97⟩, .int .i64 (Int.ofNat 4), .bool false, .bool false, .int .i64 (Int.ofNat 0), .int .i64 (Int.ofNat 0), .nils, .nils, .int .i64 (Int.ofNat 0), .nils, .int .i64 (Int.ofNat 0), .str ⟨2, 12643⟩, .int .i64 (Int.ofNat 5), .bool false, .bool false, .int .i64 (Int.ofNat 0), .int .i64 (Int.ofNat 0), .nils, .nils, .int .i64 (Int.ofNat 0), .nils, .int .i64 (Int.ofNat 0)]),
  (629, .cells [.int .i64 (Int.ofNat 2), .int .i64 (Int.ofNat 1)]),
  (608, .cells [.int .i64 (Int.ofNat 2), .int .i64 (Int.ofNat 0)]),
  (498, .cells [.str ⟨1, 97⟩, .int .i64 (Int.ofNat 1), .bool false, .bool false, .int .i64 (Int.ofNat 0), .int .i64 (Int.ofNat 0), .nils, .nils, .int .i64 (Int.ofNat 0), .nils, .int .i64 (Int.ofNat 0), .str ⟨2, 12646⟩, .int .i64 (Int.ofNat 2), .bool false, .bool false, .int .i64 (Int.ofNat 0), .int .i64 (Int.ofNat 0), .nils, .nils, .int .i64 (Int.ofNat 0), .nils, .int .i64 (Int.ofNat 0)]),
  (496, .cells [.int .i64 (Int.ofNat 2), .int .i64 (Int.ofNat 1)]),
  (475, .cells [.int .i64 (Int.ofNat 2), .int .i64 (Int.ofNat 0)]),
  (443, .cells [.int .i64 (Int.ofNat 0), .int .i64 (Int.ofNat 16)]),
  (426, .cells [.str ⟨1, 70⟩, .str ⟨1, 67⟩, .str ⟨1, 69⟩])], 628⟩
def k2 : Con := ⟨[.str t1], .tup [.agg [.str ⟨1, 77⟩, .sl 170 0 1 (.op 1), .sl 201 0 1 (.op 1), .sl 199 0 1 (.op 13)], .bool true],
  [(201, .cells [.int .i64 (Int.ofNat 0)]),
  (199, .cells [.int .i64 (Int.ofNat 2), .sl 187 0 1 (.ex 1), .bool true, .bool true, .bool true, .bool false, .int .i64 (Int.ofNat 0), .int .i64 (Int.ofNat 7), .nils, .nils, .int .i64 (Int.ofNat 0), .bool false, .int .i64 (Int.ofNat 0)]),
  (187, .cells [.int .i64 (Int.ofNat 0), .int .i64 (Int.ofNat 2)]),
  (170, .cells [.str ⟨1, 65⟩])], 114⟩
def k3 : Con := ⟨[], .bool true,
  [], 341⟩
end
end Go.Proofs.YtmgbgifepccgpaaGreatDoor.crossUnknown
