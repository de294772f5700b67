/- What the last text leans on, part 7 of 7: merged out of smaller texts. No condition. -/
import Derived.Test.YtoengnbdallegaaGreatDoorChecked
import Derived.Test.YtoengnbdallegaaGreatDoorCards
import Derived.KernelRfl
import Derived.Test.YtoengnbdallegaaGreatDoorQ5
open Int renaming ofNat -> AA
open Bool renaming noConfusion -> AD,and_eq_true -> AF
open Nat renaming beq -> AK,le_refl -> AQ,le_of_ble_eq_true -> Ao,eq_of_beq_eq_true -> BZ,beq_refl -> SR
open Option renaming some -> AL
open List renaming mem_cons -> AS,not_mem_nil -> A2,all_eq_true -> CP,drop_zero -> Cl,append_nil -> C6,take_of_length_le -> DB,forall_mem_cons -> Gx,mem_singleton -> Oe
set_option linter.all false
set_option maxRecDepth 100000
set_option maxHeartbeats 0
namespace Go.Proofs.YtoengnbdallegaaGreatDoor
open Go Go.Og
noncomputable section
def t0:BS:=⟨143,63757648272475499809165130852109316184823023196885995117161306326298479145574592081781239079220519830989956937257348061293210125991208570861088732968731827397861222352351368169083663183869663723144595844787859751513466469174277387912616159777616146877177985486051834103864788821092212486038904369095870163147999041458435314894488491261184712781⟩
def t1:BS:=⟨138,57987243301318357961613520139607604673822627952982652566025814236398654562048788722478310846072890700261229482982660612190748111962610501778807459203318855905182519884284709559400346901265642121092783640768047690938571103374970691682782198104516458775994960123674089388849412969072552300974926521068578029322544093238250572274212941⟩
def wS:Bu:=⟨100,[],
 [],
 .bool true,407,
 []⟩
theorem Xg:wS.right 2 ((DT [] 100000 60) 10)=true:=by kernel_rfl
theorem Xf:wS.shape=true:=by kernel_rfl
def H9:Bu:=⟨100,[.str t0],
 [],
 .tup [.agg [.str ⟨1,77⟩,.sl 706 0 1 (.op 1),.sl 1383 0 1 (.op 1),.sl 936 0 5 (.op 13)],.bool true],1396,
 [(706,.cells [.str ⟨1,65⟩]),
 (724,.cells [.int .i64 (AA 0),.int .i64 (AA 16)]),
 (820,.cells [.int .i64 (AA 2),.int .i64 (AA 2)]),
 (850,.cells [.int .i64 (AA 2),.int .i64 (AA 0)]),
 (889,.cells [.int .i64 (AA 2),.int .i64 (AA 3)]),
 (936,.cells [.int .i64 (AA 7),.sl 724 0 1 (.ex 1),.bool false,.bool false,.bool false,.bool false,.int .i64 (AA 0),.int .i64 (AA 0),.nils,.sl 939 0 4 (.op 11),.int .i64 (AA 4),.bool false,.int .i64 (AA 0),.int .i64 (AA 4),.sl 820 0 1 (.ex 1),.bool false,.bool false,.bool false,.bool false,.int .i64 (AA 0),.int .i64 (AA 0),.nils,.nils,.int .i64 (AA 0),.bool false,.int .i64 (AA 0),.int .i64 (AA 4),.sl 850 0 1 (.ex 1),.bool false,.bool false,.bool false,.bool false,.int .i64 (AA 0),.int .i64 (AA 0),.nils,.nils,.int .i64 (AA 0),.bool false,.int .i64 (AA 0),.int .i64 (AA 4),.sl 889 0 1 (.ex 1),.bool false,.bool false,.bool false,.bool false,.int .i64 (AA 0),.int .i64 (AA 0),.nils,.nils,.int .i64 (AA 0),.bool false,.int .i64 (AA 0),.int .i64 (AA 4),.sl 937 0 1 (.ex 1),.bool false,.bool false,.bool false,.bool false,.int .i64 (AA 0),.int .i64 (AA 0),.nils,.nils,.int .i64 (AA 0),.bool false,.int .i64 (AA 0)]),
 (937,.cells [.int .i64 (AA 2),.int .i64 (AA 1)]),
 (939,.cells [.str ⟨1,99⟩,.int .i64 (AA 1),.bool true,.bool false,.int .i64 (AA 0),.int .i64 (AA 0),.nils,.nils,.int .i64 (AA 0),.nils,.int .i64 (AA 0),.str ⟨1,97⟩,.int .i64 (AA 2),.bool true,.bool false,.int .i64 (AA 0),.int .i64 (AA 0),.nils,.nils,.int .i64 (AA 0),.nils,.int .i64 (AA 0),.str ⟨1,100⟩,.int .i64 (AA 3),.bool true,.bool false,.int .i64 (AA 0),.int .i64 (AA 0),.nils,.nils,.int .i64 (AA 0),.nils,.int .i64 (AA 0),.str ⟨1,98⟩,.int .i64 (AA 4),.bool true,.bool false,.int .i64 (AA 0),.int .i64 (AA 0),.nils,.nils,.int .i64 (AA 0),.nils,.int .i64 (AA 0)]),
 (1383,.cells [.int .i64 (AA 0)])]⟩
theorem XS:H9.right 2 ((DT [] 100000 60) 6)=true:=by kernel_rfl
theorem L5:H9.shape=true:=by kernel_rfl
def H8:Bu:=⟨100,[.str t1],
 [],
 .tup [.agg [.str ⟨1,77⟩,.sl 672 0 1 (.op 1),.sl 1087 0 1 (.op 1),.sl 902 0 5 (.op 13)],.bool true],1100,
 [(672,.cells [.str ⟨1,65⟩]),
 (690,.cells [.int .i64 (AA 0),.int .i64 (AA 17)]),
 (786,.cells [.int .i64 (AA 2),.int .i64 (AA 2)]),
 (816,.cells [.int .i64 (AA 2),.int .i64 (AA 0)]),
 (855,.cells [.int .i64 (AA 2),.int .i64 (AA 3)]),
 (902,.cells [.int .i64 (AA 8),.sl 690 0 1 (.ex 1),.bool false,.bool false,.bool false,.bool false,.int .i64 (AA 0),.int .i64 (AA 0),.nils,.sl 905 0 4 (.op 11),.int .i64 (AA 4),.bool false,.int .i64 (AA 0),.int .i64 (AA 4),.sl 786 0 1 (.ex 1),.bool false,.bool false,.bool false,.bool false,.int .i64 (AA 0),.int .i64 (AA 0),.nils,.nils,.int .i64 (AA 0),.bool false,.int .i64 (AA 0),.int .i64 (AA 4),.sl 816 0 1 (.ex 1),.bool false,.bool false,.bool false,.bool false,.int .i64 (AA 0),.int .i64 (AA 0),.nils,.nils,.int .i64 (AA 0),.bool false,.int .i64 (AA 0),.int .i64 (AA 4),.sl 855 0 1 (.ex 1),.bool false,.bool false,.bool false,.bool false,.int .i64 (AA 0),.int .i64 (AA 0),.nils,.nils,.int .i64 (AA 0),.bool false,.int .i64 (AA 0),.int .i64 (AA 4),.sl 903 0 1 (.ex 1),.bool false,.bool false,.bool false,.bool false,.int .i64 (AA 0),.int .i64 (AA 0),.nils,.nils,.int .i64 (AA 0),.bool false,.int .i64 (AA 0)]),
 (903,.cells [.int .i64 (AA 2),.int .i64 (AA 1)]),
 (905,.cells [.str ⟨1,99⟩,.int .i64 (AA 1),.bool true,.bool false,.int .i64 (AA 0),.int .i64 (AA 0),.nils,.nils,.int .i64 (AA 0),.nils,.int .i64 (AA 0),.str ⟨1,97⟩,.int .i64 (AA 2),.bool true,.bool false,.int .i64 (AA 0),.int .i64 (AA 0),.nils,.nils,.int .i64 (AA 0),.nils,.int .i64 (AA 0),.str ⟨1,100⟩,.int .i64 (AA 3),.bool true,.bool false,.int .i64 (AA 0),.int .i64 (AA 0),.nils,.nils,.int .i64 (AA 0),.nils,.int .i64 (AA 0),.str ⟨1,98⟩,.int .i64 (AA 4),.bool true,.bool false,.int .i64 (AA 0),.int .i64 (AA 0),.nils,.nils,.int .i64 (AA 0),.nils,.int .i64 (AA 0)]),
 (1087,.cells [.int .i64 (AA 0)])]⟩
theorem XR:H8.right 2 ((DT [] 100000 60) 6)=true:=by kernel_rfl
theorem L4:H8.shape=true:=by kernel_rfl
def FG:Bu:=⟨1396,[.agg [.str ⟨1,77⟩,.sl 706 0 1 (.op 1),.sl 1383 0 1 (.op 1),.sl 936 0 5 (.op 13)],.int .i64 (AA 1)],
 [(706,.cells [.str ⟨1,65⟩]),
 (724,.cells [.int .i64 (AA 0),.int .i64 (AA 16)]),
 (820,.cells [.int .i64 (AA 2),.int .i64 (AA 2)]),
 (850,.cells [.int .i64 (AA 2),.int .i64 (AA 0)]),
 (889,.cells [.int .i64 (AA 2),.int .i64 (AA 3)]),
 (936,.cells [.int .i64 (AA 7),.sl 724 0 1 (.ex 1),.bool false,.bool false,.bool false,.bool false,.int .i64 (AA 0),.int .i64 (AA 0),.nils,.sl 939 0 4 (.op 11),.int .i64 (AA 4),.bool false,.int .i64 (AA 0),.int .i64 (AA 4),.sl 820 0 1 (.ex 1),.bool false,.bool false,.bool false,.bool false,.int .i64 (AA 0),.int .i64 (AA 0),.nils,.nils,.int .i64 (AA 0),.bool false,.int .i64 (AA 0),.int .i64 (AA 4),.sl 850 0 1 (.ex 1),.bool false,.bool false,.bool false,.bool false,.int .i64 (AA 0),.int .i64 (AA 0),.nils,.nils,.int .i64 (AA 0),.bool false,.int .i64 (AA 0),.int .i64 (AA 4),.sl 889 0 1 (.ex 1),.bool false,.bool false,.bool false,.bool false,.int .i64 (AA 0),.int .i64 (AA 0),.nils,.nils,.int .i64 (AA 0),.bool false,.int .i64 (AA 0),.int .i64 (AA 4),.sl 937 0 1 (.ex 1),.bool false,.bool false,.bool false,.bool false,.int .i64 (AA 0),.int .i64 (AA 0),.nils,.nils,.int .i64 (AA 0),.bool false,.int .i64 (AA 0)]),
 (937,.cells [.int .i64 (AA 2),.int .i64 (AA 1)]),
 (939,.cells [.str ⟨1,99⟩,.int .i64 (AA 1),.bool true,.bool false,.int .i64 (AA 0),.int .i64 (AA 0),.nils,.nils,.int .i64 (AA 0),.nils,.int .i64 (AA 0),.str ⟨1,97⟩,.int .i64 (AA 2),.bool true,.bool false,.int .i64 (AA 0),.int .i64 (AA 0),.nils,.nils,.int .i64 (AA 0),.nils,.int .i64 (AA 0),.str ⟨1,100⟩,.int .i64 (AA 3),.bool true,.bool false,.int .i64 (AA 0),.int .i64 (AA 0),.nils,.nils,.int .i64 (AA 0),.nils,.int .i64 (AA 0),.str ⟨1,98⟩,.int .i64 (AA 4),.bool true,.bool false,.int .i64 (AA 0),.int .i64 (AA 0),.nils,.nils,.int .i64 (AA 0),.nils,.int .i64 (AA 0)]),
 (1383,.cells [.int .i64 (AA 0)])],
 .sl 1410 0 1 (.op 2),1411,
 [(706,.cells [.str ⟨1,65⟩]),
 (724,.cells [.int .i64 (AA 0),.int .i64 (AA 16)]),
 (820,.cells [.int .i64 (AA 2),.int .i64 (AA 2)]),
 (850,.cells [.int .i64 (AA 2),.int .i64 (AA 0)]),
 (889,.cells [.int .i64 (AA 2),.int .i64 (AA 3)]),
 (936,.cells [.int .i64 (AA 7),.sl 724 0 1 (.ex 1),.bool false,.bool false,.bool false,.bool false,.int .i64 (AA 0),.int .i64 (AA 0),.nils,.sl 939 0 4 (.op 11),.int .i64 (AA 4),.bool false,.int .i64 (AA 0),.int .i64 (AA 4),.sl 820 0 1 (.ex 1),.bool false,.bool false,.bool false,.bool false,.int .i64 (AA 0),.int .i64 (AA 0),.nils,.nils,.int .i64 (AA 0),.bool false,.int .i64 (AA 0),.int .i64 (AA 4),.sl 850 0 1 (.ex 1),.bool false,.bool false,.bool false,.bool false,.int .i64 (AA 0),.int .i64 (AA 0),.nils,.nils,.int .i64 (AA 0),.bool false,.int .i64 (AA 0),.int .i64 (AA 4),.sl 889 0 1 (.ex 1),.bool false,.bool false,.bool false,.bool false,.int .i64 (AA 0),.int .i64 (AA 0),.nils,.nils,.int .i64 (AA 0),.bool false,.int .i64 (AA 0),.int .i64 (AA 4),.sl 937 0 1 (.ex 1),.bool false,.bool false,.bool false,.bool false,.int .i64 (AA 0),.int .i64 (AA 0),.nils,.nils,.int .i64 (AA 0),.bool false,.int .i64 (AA 0)]),
 (937,.cells [.int .i64 (AA 2),.int .i64 (AA 1)]),
 (939,.cells [.str ⟨1,99⟩,.int .i64 (AA 1),.bool true,.bool false,.int .i64 (AA 0),.int .i64 (AA 0),.nils,.nils,.int .i64 (AA 0),.nils,.int .i64 (AA 0),.str ⟨1,97⟩,.int .i64 (AA 2),.bool true,.bool false,.int .i64 (AA 0),.int .i64 (AA 0),.nils,.nils,.int .i64 (AA 0),.nils,.int .i64 (AA 0),.str ⟨1,100⟩,.int .i64 (AA 3),.bool true,.bool false,.int .i64 (AA 0),.int .i64 (AA 0),.nils,.nils,.int .i64 (AA 0),.nils,.int .i64 (AA 0),.str ⟨1,98⟩,.int .i64 (AA 4),.bool true,.bool false,.int .i64 (AA 0),.int .i64 (AA 0),.nils,.nils,.int .i64 (AA 0),.nils,.int .i64 (AA 0)]),
 (1383,.cells [.int .i64 (AA 0)]),
 (1410,.cells [.int .i64 (AA 2),.int .i64 (AA 2)])]⟩
theorem Rq:FG.right 2 ((DT [] 100000 60) 96)=true:=by kernel_rfl
theorem Gs:FG.shape=true:=by kernel_rfl
def E8:Bu:=⟨1396,[.agg [.str ⟨1,77⟩,.sl 706 0 1 (.op 1),.sl 1383 0 1 (.op 1),.sl 936 0 5 (.op 13)],.int .i64 (AA 1)],
 [(706,.cells [.str ⟨1,65⟩]),
 (724,.cells [.int .i64 (AA 0),.int .i64 (AA 16)]),
 (820,.cells [.int .i64 (AA 2),.int .i64 (AA 2)]),
 (850,.cells [.int .i64 (AA 2),.int .i64 (AA 0)]),
 (889,.cells [.int .i64 (AA 2),.int .i64 (AA 3)]),
 (936,.cells [.int .i64 (AA 7),.sl 724 0 1 (.ex 1),.bool false,.bool false,.bool false,.bool false,.int .i64 (AA 0),.int .i64 (AA 0),.nils,.sl 939 0 4 (.op 11),.int .i64 (AA 4),.bool false,.int .i64 (AA 0),.int .i64 (AA 4),.sl 820 0 1 (.ex 1),.bool false,.bool false,.bool false,.bool false,.int .i64 (AA 0),.int .i64 (AA 0),.nils,.nils,.int .i64 (AA 0),.bool false,.int .i64 (AA 0),.int .i64 (AA 4),.sl 850 0 1 (.ex 1),.bool false,.bool false,.bool false,.bool false,.int .i64 (AA 0),.int .i64 (AA 0),.nils,.nils,.int .i64 (AA 0),.bool false,.int .i64 (AA 0),.int .i64 (AA 4),.sl 889 0 1 (.ex 1),.bool false,.bool false,.bool false,.bool false,.int .i64 (AA 0),.int .i64 (AA 0),.nils,.nils,.int .i64 (AA 0),.bool false,.int .i64 (AA 0),.int .i64 (AA 4),.sl 937 0 1 (.ex 1),.bool false,.bool false,.bool false,.bool false,.int .i64 (AA 0),.int .i64 (AA 0),.nils,.nils,.int .i64 (AA 0),.bool false,.int .i64 (AA 0)]),
 (937,.cells [.int .i64 (AA 2),.int .i64 (AA 1)]),
 (939,.cells [.str ⟨1,99⟩,.int .i64 (AA 1),.bool true,.bool false,.int .i64 (AA 0),.int .i64 (AA 0),.nils,.nils,.int .i64 (AA 0),.nils,.int .i64 (AA 0),.str ⟨1,97⟩,.int .i64 (AA 2),.bool true,.bool false,.int .i64 (AA 0),.int .i64 (AA 0),.nils,.nils,.int .i64 (AA 0),.nils,.int .i64 (AA 0),.str ⟨1,100⟩,.int .i64 (AA 3),.bool true,.bool false,.int .i64 (AA 0),.int .i64 (AA 0),.nils,.nils,.int .i64 (AA 0),.nils,.int .i64 (AA 0),.str ⟨1,98⟩,.int .i64 (AA 4),.bool true,.bool false,.int .i64 (AA 0),.int .i64 (AA 0),.nils,.nils,.int .i64 (AA 0),.nils,.int .i64 (AA 0)]),
 (1383,.cells [.int .i64 (AA 0)])],
 .bool false,1402,
 [(706,.cells [.str ⟨1,65⟩]),
 (724,.cells [.int .i64 (AA 0),.int .i64 (AA 16)]),
 (820,.cells [.int .i64 (AA 2),.int .i64 (AA 2)]),
 (850,.cells [.int .i64 (AA 2),.int .i64 (AA 0)]),
 (889,.cells [.int .i64 (AA 2),.int .i64 (AA 3)]),
 (936,.cells [.int .i64 (AA 7),.sl 724 0 1 (.ex 1),.bool false,.bool false,.bool false,.bool false,.int .i64 (AA 0),.int .i64 (AA 0),.nils,.sl 939 0 4 (.op 11),.int .i64 (AA 4),.bool false,.int .i64 (AA 0),.int .i64 (AA 4),.sl 820 0 1 (.ex 1),.bool false,.bool false,.bool false,.bool false,.int .i64 (AA 0),.int .i64 (AA 0),.nils,.nils,.int .i64 (AA 0),.bool false,.int .i64 (AA 0),.int .i64 (AA 4),.sl 850 0 1 (.ex 1),.bool false,.bool false,.bool false,.bool false,.int .i64 (AA 0),.int .i64 (AA 0),.nils,.nils,.int .i64 (AA 0),.bool false,.int .i64 (AA 0),.int .i64 (AA 4),.sl 889 0 1 (.ex 1),.bool false,.bool false,.bool false,.bool false,.int .i64 (AA 0),.int .i64 (AA 0),.nils,.nils,.int .i64 (AA 0),.bool false,.int .i64 (AA 0),.int .i64 (AA 4),.sl 937 0 1 (.ex 1),.bool false,.bool false,.bool false,.bool false,.int .i64 (AA 0),.int .i64 (AA 0),.nils,.nils,.int .i64 (AA 0),.bool false,.int .i64 (AA 0)]),
 (937,.cells [.int .i64 (AA 2),.int .i64 (AA 1)]),
 (939,.cells [.str ⟨1,99⟩,.int .i64 (AA 1),.bool true,.bool false,.int .i64 (AA 0),.int .i64 (AA 0),.nils,.nils,.int .i64 (AA 0),.nils,.int .i64 (AA 0),.str ⟨1,97⟩,.int .i64 (AA 2),.bool true,.bool false,.int .i64 (AA 0),.int .i64 (AA 0),.nils,.nils,.int .i64 (AA 0),.nils,.int .i64 (AA 0),.str ⟨1,100⟩,.int .i64 (AA 3),.bool true,.bool false,.int .i64 (AA 0),.int .i64 (AA 0),.nils,.nils,.int .i64 (AA 0),.nils,.int .i64 (AA 0),.str ⟨1,98⟩,.int .i64 (AA 4),.bool true,.bool false,.int .i64 (AA 0),.int .i64 (AA 0),.nils,.nils,.int .i64 (AA 0),.nils,.int .i64 (AA 0)]),
 (1383,.cells [.int .i64 (AA 0)])]⟩
theorem Q3:E8.right 2 ((DT [] 100000 60) 97)=true:=by kernel_rfl
theorem LR:E8.shape=true:=by kernel_rfl
def FF:Bu:=⟨1396,[.agg [.str ⟨1,77⟩,.sl 706 0 1 (.op 1),.sl 1383 0 1 (.op 1),.sl 936 0 5 (.op 13)],.int .i64 (AA 2)],
 [(706,.cells [.str ⟨1,65⟩]),
 (724,.cells [.int .i64 (AA 0),.int .i64 (AA 16)]),
 (820,.cells [.int .i64 (AA 2),.int .i64 (AA 2)]),
 (850,.cells [.int .i64 (AA 2),.int .i64 (AA 0)]),
 (889,.cells [.int .i64 (AA 2),.int .i64 (AA 3)]),
 (936,.cells [.int .i64 (AA 7),.sl 724 0 1 (.ex 1),.bool false,.bool false,.bool false,.bool false,.int .i64 (AA 0),.int .i64 (AA 0),.nils,.sl 939 0 4 (.op 11),.int .i64 (AA 4),.bool false,.int .i64 (AA 0),.int .i64 (AA 4),.sl 820 0 1 (.ex 1),.bool false,.bool false,.bool false,.bool false,.int .i64 (AA 0),.int .i64 (AA 0),.nils,.nils,.int .i64 (AA 0),.bool false,.int .i64 (AA 0),.int .i64 (AA 4),.sl 850 0 1 (.ex 1),.bool false,.bool false,.bool false,.bool false,.int .i64 (AA 0),.int .i64 (AA 0),.nils,.nils,.int .i64 (AA 0),.bool false,.int .i64 (AA 0),.int .i64 (AA 4),.sl 889 0 1 (.ex 1),.bool false,.bool false,.bool false,.bool false,.int .i64 (AA 0),.int .i64 (AA 0),.nils,.nils,.int .i64 (AA 0),.bool false,.int .i64 (AA 0),.int .i64 (AA 4),.sl 937 0 1 (.ex 1),.bool false,.bool false,.bool false,.bool false,.int .i64 (AA 0),.int .i64 (AA 0),.nils,.nils,.int .i64 (AA 0),.bool false,.int .i64 (AA 0)]),
 (937,.cells [.int .i64 (AA 2),.int .i64 (AA 1)]),
 (939,.cells [.str ⟨1,99⟩,.int .i64 (AA 1),.bool true,.bool false,.int .i64 (AA 0),.int .i64 (AA 0),.nils,.nils,.int .i64 (AA 0),.nils,.int .i64 (AA 0),.str ⟨1,97⟩,.int .i64 (AA 2),.bool true,.bool false,.int .i64 (AA 0),.int .i64 (AA 0),.nils,.nils,.int .i64 (AA 0),.nils,.int .i64 (AA 0),.str ⟨1,100⟩,.int .i64 (AA 3),.bool true,.bool false,.int .i64 (AA 0),.int .i64 (AA 0),.nils,.nils,.int .i64 (AA 0),.nils,.int .i64 (AA 0),.str ⟨1,98⟩,.int .i64 (AA 4),.bool true,.bool false,.int .i64 (AA 0),.int .i64 (AA 0),.nils,.nils,.int .i64 (AA 0),.nils,.int .i64 (AA 0)]),
 (1383,.cells [.int .i64 (AA 0)])],
 .sl 1410 0 1 (.op 2),1411,
 [(706,.cells [.str ⟨1,65⟩]),
 (724,.cells [.int .i64 (AA 0),.int .i64 (AA 16)]),
 (820,.cells [.int .i64 (AA 2),.int .i64 (AA 2)]),
 (850,.cells [.int .i64 (AA 2),.int .i64 (AA 0)]),
 (889,.cells [.int .i64 (AA 2),.int .i64 (AA 3)]),
 (936,.cells [.int .i64 (AA 7),.sl 724 0 1 (.ex 1),.bool false,.bool false,.bool false,.bool false,.int .i64 (AA 0),.int .i64 (AA 0),.nils,.sl 939 0 4 (.op 11),.int .i64 (AA 4),.bool false,.int .i64 (AA 0),.int .i64 (AA 4),.sl 820 0 1 (.ex 1),.bool false,.bool false,.bool false,.bool false,.int .i64 (AA 0),.int .i64 (AA 0),.nils,.nils,.int .i64 (AA 0),.bool false,.int .i64 (AA 0),.int .i64 (AA 4),.sl 850 0 1 (.ex 1),.bool false,.bool false,.bool false,.bool false,.int .i64 (AA 0),.int .i64 (AA 0),.nils,.nils,.int .i64 (AA 0),.bool false,.int .i64 (AA 0),.int .i64 (AA 4),.sl 889 0 1 (.ex 1),.bool false,.bool false,.bool false,.bool false,.int .i64 (AA 0),.int .i64 (AA 0),.nils,.nils,.int .i64 (AA 0),.bool false,.int .i64 (AA 0),.int .i64 (AA 4),.sl 937 0 1 (.ex 1),.bool false,.bool false,.bool false,.bool false,.int .i64 (AA 0),.int .i64 (AA 0),.nils,.nils,.int .i64 (AA 0),.bool false,.int .i64 (AA 0)]),
 (937,.cells [.int .i64 (AA 2),.int .i64 (AA 1)]),
 (939,.cells [.str ⟨1,99⟩,.int .i64 (AA 1),.bool true,.bool false,.int .i64 (AA 0),.int .i64 (AA 0),.nils,.nils,.int .i64 (AA 0),.nils,.int .i64 (AA 0),.str ⟨1,97⟩,.int .i64 (AA 2),.bool true,.bool false,.int .i64 (AA 0),.int .i64 (AA 0),.nils,.nils,.int .i64 (AA 0),.nils,.int .i64 (AA 0),.str ⟨1,100⟩,.int .i64 (AA 3),.bool true,.bool false,.int .i64 (AA 0),.int .i64 (AA 0),.nils,.nils,.int .i64 (AA 0),.nils,.int .i64 (AA 0),.str ⟨1,98⟩,.int .i64 (AA 4),.bool true,.bool false,.int .i64 (AA 0),.int .i64 (AA 0),.nils,.nils,.int .i64 (AA 0),.nils,.int .i64 (AA 0)]),
 (1383,.cells [.int .i64 (AA 0)]),
 (1410,.cells [.int .i64 (AA 2),.int .i64 (AA 0)])]⟩
theorem Rp:FF.right 2 ((DT [] 100000 60) 96)=true:=by kernel_rfl
theorem Gr:FF.shape=true:=by kernel_rfl
def E7:Bu:=⟨1396,[.agg [.str ⟨1,77⟩,.sl 706 0 1 (.op 1),.sl 1383 0 1 (.op 1),.sl 936 0 5 (.op 13)],.int .i64 (AA 2)],
 [(706,.cells [.str ⟨1,65⟩]),
 (724,.cells [.int .i64 (AA 0),.int .i64 (AA 16)]),
 (820,.cells [.int .i64 (AA 2),.int .i64 (AA 2)]),
 (850,.cells [.int .i64 (AA 2),.int .i64 (AA 0)]),
 (889,.cells [.int .i64 (AA 2),.int .i64 (AA 3)]),
 (936,.cells [.int .i64 (AA 7),.sl 724 0 1 (.ex 1),.bool false,.bool false,.bool false,.bool false,.int .i64 (AA 0),.int .i64 (AA 0),.nils,.sl 939 0 4 (.op 11),.int .i64 (AA 4),.bool false,.int .i64 (AA 0),.int .i64 (AA 4),.sl 820 0 1 (.ex 1),.bool false,.bool false,.bool false,.bool false,.int .i64 (AA 0),.int .i64 (AA 0),.nils,.nils,.int .i64 (AA 0),.bool false,.int .i64 (AA 0),.int .i64 (AA 4),.sl 850 0 1 (.ex 1),.bool false,.bool false,.bool false,.bool false,.int .i64 (AA 0),.int .i64 (AA 0),.nils,.nils,.int .i64 (AA 0),.bool false,.int .i64 (AA 0),.int .i64 (AA 4),.sl 889 0 1 (.ex 1),.bool false,.bool false,.bool false,.bool false,.int .i64 (AA 0),.int .i64 (AA 0),.nils,.nils,.int .i64 (AA 0),.bool false,.int .i64 (AA 0),.int .i64 (AA 4),.sl 937 0 1 (.ex 1),.bool false,.bool false,.bool false,.bool false,.int .i64 (AA 0),.int .i64 (AA 0),.nils,.nils,.int .i64 (AA 0),.bool false,.int .i64 (AA 0)]),
 (937,.cells [.int .i64 (AA 2),.int .i64 (AA 1)]),
 (939,.cells [.str ⟨1,99⟩,.int .i64 (AA 1),.bool true,.bool false,.int .i64 (AA 0),.int .i64 (AA 0),.nils,.nils,.int .i64 (AA 0),.nils,.int .i64 (AA 0),.str ⟨1,97⟩,.int .i64 (AA 2),.bool true,.bool false,.int .i64 (AA 0),.int .i64 (AA 0),.nils,.nils,.int .i64 (AA 0),.nils,.int .i64 (AA 0),.str ⟨1,100⟩,.int .i64 (AA 3),.bool true,.bool false,.int .i64 (AA 0),.int .i64 (AA 0),.nils,.nils,.int .i64 (AA 0),.nils,.int .i64 (AA 0),.str ⟨1,98⟩,.int .i64 (AA 4),.bool true,.bool false,.int .i64 (AA 0),.int .i64 (AA 0),.nils,.nils,.int .i64 (AA 0),.nils,.int .i64 (AA 0)]),
 (1383,.cells [.int .i64 (AA 0)])],
 .bool false,1402,
 [(706,.cells [.str ⟨1,65⟩]),
 (724,.cells [.int .i64 (AA 0),.int .i64 (AA 16)]),
 (820,.cells [.int .i64 (AA 2),.int .i64 (AA 2)]),
 (850,.cells [.int .i64 (AA 2),.int .i64 (AA 0)]),
 (889,.cells [.int .i64 (AA 2),.int .i64 (AA 3)]),
 (936,.cells [.int .i64 (AA 7),.sl 724 0 1 (.ex 1),.bool false,.bool false,.bool false,.bool false,.int .i64 (AA 0),.int .i64 (AA 0),.nils,.sl 939 0 4 (.op 11),.int .i64 (AA 4),.bool false,.int .i64 (AA 0),.int .i64 (AA 4),.sl 820 0 1 (.ex 1),.bool false,.bool false,.bool false,.bool false,.int .i64 (AA 0),.int .i64 (AA 0),.nils,.nils,.int .i64 (AA 0),.bool false,.int .i64 (AA 0),.int .i64 (AA 4),.sl 850 0 1 (.ex 1),.bool false,.bool false,.bool false,.bool false,.int .i64 (AA 0),.int .i64 (AA 0),.nils,.nils,.int .i64 (AA 0),.bool false,.int .i64 (AA 0),.int .i64 (AA 4),.sl 889 0 1 (.ex 1),.bool false,.bool false,.bool false,.bool false,.int .i64 (AA 0),.int .i64 (AA 0),.nils,.nils,.int .i64 (AA 0),.bool false,.int .i64 (AA 0),.int .i64 (AA 4),.sl 937 0 1 (.ex 1),.bool false,.bool false,.bool false,.bool false,.int .i64 (AA 0),.int .i64 (AA 0),.nils,.nils,.int .i64 (AA 0),.bool false,.int .i64 (AA 0)]),
 (937,.cells [.int .i64 (AA 2),.int .i64 (AA 1)]),
 (939,.cells [.str ⟨1,99⟩,.int .i64 (AA 1),.bool true,.bool false,.int .i64 (AA 0),.int .i64 (AA 0),.nils,.nils,.int .i64 (AA 0),.nils,.int .i64 (AA 0),.str ⟨1,97⟩,.int .i64 (AA 2),.bool true,.bool false,.int .i64 (AA 0),.int .i64 (AA 0),.nils,.nils,.int .i64 (AA 0),.nils,.int .i64 (AA 0),.str ⟨1,100⟩,.int .i64 (AA 3),.bool true,.bool false,.int .i64 (AA 0),.int .i64 (AA 0),.nils,.nils,.int .i64 (AA 0),.nils,.int .i64 (AA 0),.str ⟨1,98⟩,.int .i64 (AA 4),.bool true,.bool false,.int .i64 (AA 0),.int .i64 (AA 0),.nils,.nils,.int .i64 (AA 0),.nils,.int .i64 (AA 0)]),
 (1383,.cells [.int .i64 (AA 0)])]⟩
theorem Q2:E7.right 2 ((DT [] 100000 60) 97)=true:=by kernel_rfl
theorem LQ:E7.shape=true:=by kernel_rfl
def FE:Bu:=⟨1396,[.agg [.str ⟨1,77⟩,.sl 706 0 1 (.op 1),.sl 1383 0 1 (.op 1),.sl 936 0 5 (.op 13)],.int .i64 (AA 3)],
 [(706,.cells [.str ⟨1,65⟩]),
 (724,.cells [.int .i64 (AA 0),.int .i64 (AA 16)]),
 (820,.cells [.int .i64 (AA 2),.int .i64 (AA 2)]),
 (850,.cells [.int .i64 (AA 2),.int .i64 (AA 0)]),
 (889,.cells [.int .i64 (AA 2),.int .i64 (AA 3)]),
 (936,.cells [.int .i64 (AA 7),.sl 724 0 1 (.ex 1),.bool false,.bool false,.bool false,.bool false,.int .i64 (AA 0),.int .i64 (AA 0),.nils,.sl 939 0 4 (.op 11),.int .i64 (AA 4),.bool false,.int .i64 (AA 0),.int .i64 (AA 4),.sl 820 0 1 (.ex 1),.bool false,.bool false,.bool false,.bool false,.int .i64 (AA 0),.int .i64 (AA 0),.nils,.nils,.int .i64 (AA 0),.bool false,.int .i64 (AA 0),.int .i64 (AA 4),.sl 850 0 1 (.ex 1),.bool false,.bool false,.bool false,.bool false,.int .i64 (AA 0),.int .i64 (AA 0),.nils,.nils,.int .i64 (AA 0),.bool false,.int .i64 (AA 0),.int .i64 (AA 4),.sl 889 0 1 (.ex 1),.bool false,.bool false,.bool false,.bool false,.int .i64 (AA 0),.int .i64 (AA 0),.nils,.nils,.int .i64 (AA 0),.bool false,.int .i64 (AA 0),.int .i64 (AA 4),.sl 937 0 1 (.ex 1),.bool false,.bool false,.bool false,.bool false,.int .i64 (AA 0),.int .i64 (AA 0),.nils,.nils,.int .i64 (AA 0),.bool false,.int .i64 (AA 0)]),
 (937,.cells [.int .i64 (AA 2),.int .i64 (AA 1)]),
 (939,.cells [.str ⟨1,99⟩,.int .i64 (AA 1),.bool true,.bool false,.int .i64 (AA 0),.int .i64 (AA 0),.nils,.nils,.int .i64 (AA 0),.nils,.int .i64 (AA 0),.str ⟨1,97⟩,.int .i64 (AA 2),.bool true,.bool false,.int .i64 (AA 0),.int .i64 (AA 0),.nils,.nils,.int .i64 (AA 0),.nils,.int .i64 (AA 0),.str ⟨1,100⟩,.int .i64 (AA 3),.bool true,.bool false,.int .i64 (AA 0),.int .i64 (AA 0),.nils,.nils,.int .i64 (AA 0),.nils,.int .i64 (AA 0),.str ⟨1,98⟩,.int .i64 (AA 4),.bool true,.bool false,.int .i64 (AA 0),.int .i64 (AA 0),.nils,.nils,.int .i64 (AA 0),.nils,.int .i64 (AA 0)]),
 (1383,.cells [.int .i64 (AA 0)])],
 .sl 1410 0 1 (.op 2),1411,
 [(706,.cells [.str ⟨1,65⟩]),
 (724,.cells [.int .i64 (AA 0),.int .i64 (AA 16)]),
 (820,.cells [.int .i64 (AA 2),.int .i64 (AA 2)]),
 (850,.cells [.int .i64 (AA 2),.int .i64 (AA 0)]),
 (889,.cells [.int .i64 (AA 2),.int .i64 (AA 3)]),
 (936,.cells [.int .i64 (AA 7),.sl 724 0 1 (.ex 1),.bool false,.bool false,.bool false,.bool false,.int .i64 (AA 0),.int .i64 (AA 0),.nils,.sl 939 0 4 (.op 11),.int .i64 (AA 4),.bool false,.int .i64 (AA 0),.int .i64 (AA 4),.sl 820 0 1 (.ex 1),.bool false,.bool false,.bool false,.bool false,.int .i64 (AA 0),.int .i64 (AA 0),.nils,.nils,.int .i64 (AA 0),.bool false,.int .i64 (AA 0),.int .i64 (AA 4),.sl 850 0 1 (.ex 1),.bool false,.bool false,.bool false,.bool false,.int .i64 (AA 0),.int .i64 (AA 0),.nils,.nils,.int .i64 (AA 0),.bool false,.int .i64 (AA 0),.int .i64 (AA 4),.sl 889 0 1 (.ex 1),.bool false,.bool false,.bool false,.bool false,.int .i64 (AA 0),.int .i64 (AA 0),.nils,.nils,.int .i64 (AA 0),.bool false,.int .i64 (AA 0),.int .i64 (AA 4),.sl 937 0 1 (.ex 1),.bool false,.bool false,.bool false,.bool false,.int .i64 (AA 0),.int .i64 (AA 0),.nils,.nils,.int .i64 (AA 0),.bool false,.int .i64 (AA 0)]),
 (937,.cells [.int .i64 (AA 2),.int .i64 (AA 1)]),
 (939,.cells [.str ⟨1,99⟩,.int .i64 (AA 1),.bool true,.bool false,.int .i64 (AA 0),.int .i64 (AA 0),.nils,.nils,.int .i64 (AA 0),.nils,.int .i64 (AA 0),.str ⟨1,97⟩,.int .i64 (AA 2),.bool true,.bool false,.int .i64 (AA 0),.int .i64 (AA 0),.nils,.nils,.int .i64 (AA 0),.nils,.int .i64 (AA 0),.str ⟨1,100⟩,.int .i64 (AA 3),.bool true,.bool false,.int .i64 (AA 0),.int .i64 (AA 0),.nils,.nils,.int .i64 (AA 0),.nils,.int .i64 (AA 0),.str ⟨1,98⟩,.int .i64 (AA 4),.bool true,.bool false,.int .i64 (AA 0),.int .i64 (AA 0),.nils,.nils,.int .i64 (AA 0),.nils,.int .i64 (AA 0)]),
 (1383,.cells [.int .i64 (AA 0)]),
 (1410,.cells [.int .i64 (AA 2),.int .i64 (AA 3)])]⟩
theorem Ro:FE.right 2 ((DT [] 100000 60) 96)=true:=by kernel_rfl
theorem Gq:FE.shape=true:=by kernel_rfl
def E6:Bu:=⟨1396,[.agg [.str ⟨1,77⟩,.sl 706 0 1 (.op 1),.sl 1383 0 1 (.op 1),.sl 936 0 5 (.op 13)],.int .i64 (AA 3)],
 [(706,.cells [.str ⟨1,65⟩]),
 (724,.cells [.int .i64 (AA 0),.int .i64 (AA 16)]),
 (820,.cells [.int .i64 (AA 2),.int .i64 (AA 2)]),
 (850,.cells [.int .i64 (AA 2),.int .i64 (AA 0)]),
 (889,.cells [.int .i64 (AA 2),.int .i64 (AA 3)]),
 (936,.cells [.int .i64 (AA 7),.sl 724 0 1 (.ex 1),.bool false,.bool false,.bool false,.bool false,.int .i64 (AA 0),.int .i64 (AA 0),.nils,.sl 939 0 4 (.op 11),.int .i64 (AA 4),.bool false,.int .i64 (AA 0),.int .i64 (AA 4),.sl 820 0 1 (.ex 1),.bool false,.bool false,.bool false,.bool false,.int .i64 (AA 0),.int .i64 (AA 0),.nils,.nils,.int .i64 (AA 0),.bool false,.int .i64 (AA 0),.int .i64 (AA 4),.sl 850 0 1 (.ex 1),.bool false,.bool false,.bool false,.bool false,.int .i64 (AA 0),.int .i64 (AA 0),.nils,.nils,.int .i64 (AA 0),.bool false,.int .i64 (AA 0),.int .i64 (AA 4),.sl 889 0 1 (.ex 1),.bool false,.bool false,.bool false,.bool false,.int .i64 (AA 0),.int .i64 (AA 0),.nils,.nils,.int .i64 (AA 0),.bool false,.int .i64 (AA 0),.int .i64 (AA 4),.sl 937 0 1 (.ex 1),.bool false,.bool false,.bool false,.bool false,.int .i64 (AA 0),.int .i64 (AA 0),.nils,.nils,.int .i64 (AA 0),.bool false,.int .i64 (AA 0)]),
 (937,.cells [.int .i64 (AA 2),.int .i64 (AA 1)]),
 (939,.cells [.str ⟨1,99⟩,.int .i64 (AA 1),.bool true,.bool false,.int .i64 (AA 0),.int .i64 (AA 0),.nils,.nils,.int .i64 (AA 0),.nils,.int .i64 (AA 0),.str ⟨1,97⟩,.int .i64 (AA 2),.bool true,.bool false,.int .i64 (AA 0),.int .i64 (AA 0),.nils,.nils,.int .i64 (AA 0),.nils,.int .i64 (AA 0),.str ⟨1,100⟩,.int .i64 (AA 3),.bool true,.bool false,.int .i64 (AA 0),.int .i64 (AA 0),.nils,.nils,.int .i64 (AA 0),.nils,.int .i64 (AA 0),.str ⟨1,98⟩,.int .i64 (AA 4),.bool true,.bool false,.int .i64 (AA 0),.int .i64 (AA 0),.nils,.nils,.int .i64 (AA 0),.nils,.int .i64 (AA 0)]),
 (1383,.cells [.int .i64 (AA 0)])],
 .bool false,1402,
 [(706,.cells [.str ⟨1,65⟩]),
 (724,.cells [.int .i64 (AA 0),.int .i64 (AA 16)]),
 (820,.cells [.int .i64 (AA 2),.int .i64 (AA 2)]),
 (850,.cells [.int .i64 (AA 2),.int .i64 (AA 0)]),
 (889,.cells [.int .i64 (AA 2),.int .i64 (AA 3)]),
 (936,.cells [.int .i64 (AA 7),.sl 724 0 1 (.ex 1),.bool false,.bool false,.bool false,.bool false,.int .i64 (AA 0),.int .i64 (AA 0),.nils,.sl 939 0 4 (.op 11),.int .i64 (AA 4),.bool false,.int .i64 (AA 0),.int .i64 (AA 4),.sl 820 0 1 (.ex 1),.bool false,.bool false,.bool false,.bool false,.int .i64 (AA 0),.int .i64 (AA 0),.nils,.nils,.int .i64 (AA 0),.bool false,.int .i64 (AA 0),.int .i64 (AA 4),.sl 850 0 1 (.ex 1),.bool false,.bool false,.bool false,.bool false,.int .i64 (AA 0),.int .i64 (AA 0),.nils,.nils,.int .i64 (AA 0),.bool false,.int .i64 (AA 0),.int .i64 (AA 4),.sl 889 0 1 (.ex 1),.bool false,.bool false,.bool false,.bool false,.int .i64 (AA 0),.int .i64 (AA 0),.nils,.nils,.int .i64 (AA 0),.bool false,.int .i64 (AA 0),.int .i64 (AA 4),.sl 937 0 1 (.ex 1),.bool false,.bool false,.bool false,.bool false,.int .i64 (AA 0),.int .i64 (AA 0),.nils,.nils,.int .i64 (AA 0),.bool false,.int .i64 (AA 0)]),
 (937,.cells [.int .i64 (AA 2),.int .i64 (AA 1)]),
 (939,.cells [.str ⟨1,99⟩,.int .i64 (AA 1),.bool true,.bool false,.int .i64 (AA 0),.int .i64 (AA 0),.nils,.nils,.int .i64 (AA 0),.nils,.int .i64 (AA 0),.str ⟨1,97⟩,.int .i64 (AA 2),.bool true,.bool false,.int .i64 (AA 0),.int .i64 (AA 0),.nils,.nils,.int .i64 (AA 0),.nils,.int .i64 (AA 0),.str ⟨1,100⟩,.int .i64 (AA 3),.bool true,.bool false,.int .i64 (AA 0),.int .i64 (AA 0),.nils,.nils,.int .i64 (AA 0),.nils,.int .i64 (AA 0),.str ⟨1,98⟩,.int .i64 (AA 4),.bool true,.bool false,.int .i64 (AA 0),.int .i64 (AA 0),.nils,.nils,.int .i64 (AA 0),.nils,.int .i64 (AA 0)]),
 (1383,.cells [.int .i64 (AA 0)])]⟩
theorem Q1:E6.right 2 ((DT [] 100000 60) 97)=true:=by kernel_rfl
theorem LP:E6.shape=true:=by kernel_rfl
def FD:Bu:=⟨1396,[.agg [.str ⟨1,77⟩,.sl 706 0 1 (.op 1),.sl 1383 0 1 (.op 1),.sl 936 0 5 (.op 13)],.int .i64 (AA 4)],
 [(706,.cells [.str ⟨1,65⟩]),
 (724,.cells [.int .i64 (AA 0),.int .i64 (AA 16)]),
 (820,.cells [.int .i64 (AA 2),.int .i64 (AA 2)]),
 (850,.cells [.int .i64 (AA 2),.int .i64 (AA 0)]),
 (889,.cells [.int .i64 (AA 2),.int .i64 (AA 3)]),
 (936,.cells [.int .i64 (AA 7),.sl 724 0 1 (.ex 1),.bool false,.bool false,.bool false,.bool false,.int .i64 (AA 0),.int .i64 (AA 0),.nils,.sl 939 0 4 (.op 11),.int .i64 (AA 4),.bool false,.int .i64 (AA 0),.int .i64 (AA 4),.sl 820 0 1 (.ex 1),.bool false,.bool false,.bool false,.bool false,.int .i64 (AA 0),.int .i64 (AA 0),.nils,.nils,.int .i64 (AA 0),.bool false,.int .i64 (AA 0),.int .i64 (AA 4),.sl 850 0 1 (.ex 1),.bool false,.bool false,.bool false,.bool false,.int .i64 (AA 0),.int .i64 (AA 0),.nils,.nils,.int .i64 (AA 0),.bool false,.int .i64 (AA 0),.int .i64 (AA 4),.sl 889 0 1 (.ex 1),.bool false,.bool false,.bool false,.bool false,.int .i64 (AA 0),.int .i64 (AA 0),.nils,.nils,.int .i64 (AA 0),.bool false,.int .i64 (AA 0),.int .i64 (AA 4),.sl 937 0 1 (.ex 1),.bool false,.bool false,.bool false,.bool false,.int .i64 (AA 0),.int .i64 (AA 0),.nils,.nils,.int .i64 (AA 0),.bool false,.int .i64 (AA 0)]),
 (937,.cells [.int .i64 (AA 2),.int .i64 (AA 1)]),
 (939,.cells [.str ⟨1,99⟩,.int .i64 (AA 1),.bool true,.bool false,.int .i64 (AA 0),.int .i64 (AA 0),.nils,.nils,.int .i64 (AA 0),.nils,.int .i64 (AA 0),.str ⟨1,97⟩,.int .i64 (AA 2),.bool true,.bool false,.int .i64 (AA 0),.int .i64 (AA 0),.nils,.nils,.int .i64 (AA 0),.nils,.int .i64 (AA 0),.str ⟨1,100⟩,.int .i64 (AA 3),.bool true,.bool false,.int .i64 (AA 0),.int .i64 (AA 0),.nils,.nils,.int .i64 (AA 0),.nils,.int .i64 (AA 0),.str ⟨1,98⟩,.int .i64 (AA 4),.bool true,.bool false,.int .i64 (AA 0),.int .i64 (AA 0),.nils,.nils,.int .i64 (AA 0),.nils,.int .i64 (AA 0)]),
 (1383,.cells [.int .i64 (AA 0)])],
 .sl 1410 0 1 (.op 2),1411,
 [(706,.cells [.str ⟨1,65⟩]),
 (724,.cells [.int .i64 (AA 0),.int .i64 (AA 16)]),
 (820,.cells [.int .i64 (AA 2),.int .i64 (AA 2)]),
 (850,.cells [.int .i64 (AA 2),.int .i64 (AA 0)]),
 (889,.cells [.int .i64 (AA 2),.int .i64 (AA 3)]),
 (936,.cells [.int .i64 (AA 7),.sl 724 0 1 (.ex 1),.bool false,.bool false,.bool false,.bool false,.int .i64 (AA 0),.int .i64 (AA 0),.nils,.sl 939 0 4 (.op 11),.int .i64 (AA 4),.bool false,.int .i64 (AA 0),.int .i64 (AA 4),.sl 820 0 1 (.ex 1),.bool false,.bool false,.bool false,.bool false,.int .i64 (AA 0),.int .i64 (AA 0),.nils,.nils,.int .i64 (AA 0),.bool false,.int .i64 (AA 0),.int .i64 (AA 4),.sl 850 0 1 (.ex 1),.bool false,.bool false,.bool false,.bool false,.int .i64 (AA 0),.int .i64 (AA 0),.nils,.nils,.int .i64 (AA 0),.bool false,.int .i64 (AA 0),.int .i64 (AA 4),.sl 889 0 1 (.ex 1),.bool false,.bool false,.bool false,.bool false,.int .i64 (AA 0),.int .i64 (AA 0),.nils,.nils,.int .i64 (AA 0),.bool false,.int .i64 (AA 0),.int .i64 (AA 4),.sl 937 0 1 (.ex 1),.bool false,.bool false,.bool false,.bool false,.int .i64 (AA 0),.int .i64 (AA 0),.nils,.nils,.int .i64 (AA 0),.bool false,.int .i64 (AA 0)]),
 (937,.cells [.int .i64 (AA 2),.int .i64 (AA 1)]),
 (939,.cells [.str ⟨1,99⟩,.int .i64 (AA 1),.bool true,.bool false,.int .i64 (AA 0),.int .i64 (AA 0),.nils,.nils,.int .i64 (AA 0),.nils,.int .i64 (AA 0),.str ⟨1,97⟩,.int .i64 (AA 2),.bool true,.bool false,.int .i64 (AA 0),.int .i64 (AA 0),.nils,.nils,.int .i64 (AA 0),.nils,.int .i64 (AA 0),.str ⟨1,100⟩,.int .i64 (AA 3),.bool true,.bool false,.int .i64 (AA 0),.int .i64 (AA 0),.nils,.nils,.int .i64 (AA 0),.nils,.int .i64 (AA 0),.str ⟨1,98⟩,.int .i64 (AA 4),.bool true,.bool false,.int .i64 (AA 0),.int .i64 (AA 0),.nils,.nils,.int .i64 (AA 0),.nils,.int .i64 (AA 0)]),
 (1383,.cells [.int .i64 (AA 0)]),
 (1410,.cells [.int .i64 (AA 2),.int .i64 (AA 1)])]⟩
theorem Rn:FD.right 2 ((DT [] 100000 60) 96)=true:=by kernel_rfl
theorem Gp:FD.shape=true:=by kernel_rfl
def E5:Bu:=⟨1396,[.agg [.str ⟨1,77⟩,.sl 706 0 1 (.op 1),.sl 1383 0 1 (.op 1),.sl 936 0 5 (.op 13)],.int .i64 (AA 4)],
 [(706,.cells [.str ⟨1,65⟩]),
 (724,.cells [.int .i64 (AA 0),.int .i64 (AA 16)]),
 (820,.cells [.int .i64 (AA 2),.int .i64 (AA 2)]),
 (850,.cells [.int .i64 (AA 2),.int .i64 (AA 0)]),
 (889,.cells [.int .i64 (AA 2),.int .i64 (AA 3)]),
 (936,.cells [.int .i64 (AA 7),.sl 724 0 1 (.ex 1),.bool false,.bool false,.bool false,.bool false,.int .i64 (AA 0),.int .i64 (AA 0),.nils,.sl 939 0 4 (.op 11),.int .i64 (AA 4),.bool false,.int .i64 (AA 0),.int .i64 (AA 4),.sl 820 0 1 (.ex 1),.bool false,.bool false,.bool false,.bool false,.int .i64 (AA 0),.int .i64 (AA 0),.nils,.nils,.int .i64 (AA 0),.bool false,.int .i64 (AA 0),.int .i64 (AA 4),.sl 850 0 1 (.ex 1),.bool false,.bool false,.bool false,.bool false,.int .i64 (AA 0),.int .i64 (AA 0),.nils,.nils,.int .i64 (AA 0),.bool false,.int .i64 (AA 0),.int .i64 (AA 4),.sl 889 0 1 (.ex 1),.bool false,.bool false,.bool false,.bool false,.int .i64 (AA 0),.int .i64 (AA 0),.nils,.nils,.int .i64 (AA 0),.bool false,.int .i64 (AA 0),.int .i64 (AA 4),.sl 937 0 1 (.ex 1),.bool false,.bool false,.bool false,.bool false,.int .i64 (AA 0),.int .i64 (AA 0),.nils,.nils,.int .i64 (AA 0),.bool false,.int .i64 (AA 0)]),
 (937,.cells [.int .i64 (AA 2),.int .i64 (AA 1)]),
 (939,.cells [.str ⟨1,99⟩,.int .i64 (AA 1),.bool true,.bool false,.int .i64 (AA 0),.int .i64 (AA 0),.nils,.nils,.int .i64 (AA 0),.nils,.int .i64 (AA 0),.str ⟨1,97⟩,.int .i64 (AA 2),.bool true,.bool false,.int .i64 (AA 0),.int .i64 (AA 0),.nils,.nils,.int .i64 (AA 0),.nils,.int .i64 (AA 0),.str ⟨1,100⟩,.int .i64 (AA 3),.bool true,.bool false,.int .i64 (AA 0),.int .i64 (AA 0),.nils,.nils,.int .i64 (AA 0),.nils,.int .i64 (AA 0),.str ⟨1,98⟩,.int .i64 (AA 4),.bool true,.bool false,.int .i64 (AA 0),.int .i64 (AA 0),.nils,.nils,.int .i64 (AA 0),.nils,.int .i64 (AA 0)]),
 (1383,.cells [.int .i64 (AA 0)])],
 .bool false,1402,
 [(706,.cells [.str ⟨1,65⟩]),
 (724,.cells [.int .i64 (AA 0),.int .i64 (AA 16)]),
 (820,.cells [.int .i64 (AA 2),.int .i64 (AA 2)]),
 (850,.cells [.int .i64 (AA 2),.int .i64 (AA 0)]),
 (889,.cells [.int .i64 (AA 2),.int .i64 (AA 3)]),
 (936,.cells [.int .i64 (AA 7),.sl 724 0 1 (.ex 1),.bool false,.bool false,.bool false,.bool false,.int .i64 (AA 0),.int .i64 (AA 0),.nils,.sl 939 0 4 (.op 11),.int .i64 (AA 4),.bool false,.int .i64 (AA 0),.int .i64 (AA 4),.sl 820 0 1 (.ex 1),.bool false,.bool false,.bool false,.bool false,.int .i64 (AA 0),.int .i64 (AA 0),.nils,.nils,.int .i64 (AA 0),.bool false,.int .i64 (AA 0),.int .i64 (AA 4),.sl 850 0 1 (.ex 1),.bool false,.bool false,.bool false,.bool false,.int .i64 (AA 0),.int .i64 (AA 0),.nils,.nils,.int .i64 (AA 0),.bool false,.int .i64 (AA 0),.int .i64 (AA 4),.sl 889 0 1 (.ex 1),.bool false,.bool false,.bool false,.bool false,.int .i64 (AA 0),.int .i64 (AA 0),.nils,.nils,.int .i64 (AA 0),.bool false,.int .i64 (AA 0),.int .i64 (AA 4),.sl 937 0 1 (.ex 1),.bool false,.bool false,.bool false,.bool false,.int .i64 (AA 0),.int .i64 (AA 0),.nils,.nils,.int .i64 (AA 0),.bool false,.int .i64 (AA 0)]),
 (937,.cells [.int .i64 (AA 2),.int .i64 (AA 1)]),
 (939,.cells [.str ⟨1,99⟩,.int .i64 (AA 1),.bool true,.bool false,.int .i64 (AA 0),.int .i64 (AA 0),.nils,.nils,.int .i64 (AA 0),.nils,.int .i64 (AA 0),.str ⟨1,97⟩,.int .i64 (AA 2),.bool true,.bool false,.int .i64 (AA 0),.int .i64 (AA 0),.nils,.nils,.int .i64 (AA 0),.nils,.int .i64 (AA 0),.str ⟨1,100⟩,.int .i64 (AA 3),.bool true,.bool false,.int .i64 (AA 0),.int .i64 (AA 0),.nils,.nils,.int .i64 (AA 0),.nils,.int .i64 (AA 0),.str ⟨1,98⟩,.int .i64 (AA 4),.bool true,.bool false,.int .i64 (AA 0),.int .i64 (AA 0),.nils,.nils,.int .i64 (AA 0),.nils,.int .i64 (AA 0)]),
 (1383,.cells [.int .i64 (AA 0)])]⟩
theorem Q0:E5.right 2 ((DT [] 100000 60) 97)=true:=by kernel_rfl
theorem LO:E5.shape=true:=by kernel_rfl
def FC:Bu:=⟨1100,[.agg [.str ⟨1,77⟩,.sl 672 0 1 (.op 1),.sl 1087 0 1 (.op 1),.sl 902 0 5 (.op 13)],.int .i64 (AA 1)],
 [(672,.cells [.str ⟨1,65⟩]),
 (690,.cells [.int .i64 (AA 0),.int .i64 (AA 17)]),
 (786,.cells [.int .i64 (AA 2),.int .i64 (AA 2)]),
 (816,.cells [.int .i64 (AA 2),.int .i64 (AA 0)]),
 (855,.cells [.int .i64 (AA 2),.int .i64 (AA 3)]),
 (902,.cells [.int .i64 (AA 8),.sl 690 0 1 (.ex 1),.bool false,.bool false,.bool false,.bool false,.int .i64 (AA 0),.int .i64 (AA 0),.nils,.sl 905 0 4 (.op 11),.int .i64 (AA 4),.bool false,.int .i64 (AA 0),.int .i64 (AA 4),.sl 786 0 1 (.ex 1),.bool false,.bool false,.bool false,.bool false,.int .i64 (AA 0),.int .i64 (AA 0),.nils,.nils,.int .i64 (AA 0),.bool false,.int .i64 (AA 0),.int .i64 (AA 4),.sl 816 0 1 (.ex 1),.bool false,.bool false,.bool false,.bool false,.int .i64 (AA 0),.int .i64 (AA 0),.nils,.nils,.int .i64 (AA 0),.bool false,.int .i64 (AA 0),.int .i64 (AA 4),.sl 855 0 1 (.ex 1),.bool false,.bool false,.bool false,.bool false,.int .i64 (AA 0),.int .i64 (AA 0),.nils,.nils,.int .i64 (AA 0),.bool false,.int .i64 (AA 0),.int .i64 (AA 4),.sl 903 0 1 (.ex 1),.bool false,.bool false,.bool false,.bool false,.int .i64 (AA 0),.int .i64 (AA 0),.nils,.nils,.int .i64 (AA 0),.bool false,.int .i64 (AA 0)]),
 (903,.cells [.int .i64 (AA 2),.int .i64 (AA 1)]),
 (905,.cells [.str ⟨1,99⟩,.int .i64 (AA 1),.bool true,.bool false,.int .i64 (AA 0),.int .i64 (AA 0),.nils,.nils,.int .i64 (AA 0),.nils,.int .i64 (AA 0),.str ⟨1,97⟩,.int .i64 (AA 2),.bool true,.bool false,.int .i64 (AA 0),.int .i64 (AA 0),.nils,.nils,.int .i64 (AA 0),.nils,.int .i64 (AA 0),.str ⟨1,100⟩,.int .i64 (AA 3),.bool true,.bool false,.int .i64 (AA 0),.int .i64 (AA 0),.nils,.nils,.int .i64 (AA 0),.nils,.int .i64 (AA 0),.str ⟨1,98⟩,.int .i64 (AA 4),.bool true,.bool false,.int .i64 (AA 0),.int .i64 (AA 0),.nils,.nils,.int .i64 (AA 0),.nils,.int .i64 (AA 0)]),
 (1087,.cells [.int .i64 (AA 0)])],
 .sl 1114 0 1 (.op 2),1115,
 [(672,.cells [.str ⟨1,65⟩]),
 (690,.cells [.int .i64 (AA 0),.int .i64 (AA 17)]),
 (786,.cells [.int .i64 (AA 2),.int .i64 (AA 2)]),
 (816,.cells [.int .i64 (AA 2),.int .i64 (AA 0)]),
 (855,.cells [.int .i64 (AA 2),.int .i64 (AA 3)]),
 (902,.cells [.int .i64 (AA 8),.sl 690 0 1 (.ex 1),.bool false,.bool false,.bool false,.bool false,.int .i64 (AA 0),.int .i64 (AA 0),.nils,.sl 905 0 4 (.op 11),.int .i64 (AA 4),.bool false,.int .i64 (AA 0),.int .i64 (AA 4),.sl 786 0 1 (.ex 1),.bool false,.bool false,.bool false,.bool false,.int .i64 (AA 0),.int .i64 (AA 0),.nils,.nils,.int .i64 (AA 0),.bool false,.int .i64 (AA 0),.int .i64 (AA 4),.sl 816 0 1 (.ex 1),.bool false,.bool false,.bool false,.bool false,.int .i64 (AA 0),.int .i64 (AA 0),.nils,.nils,.int .i64 (AA 0),.bool false,.int .i64 (AA 0),.int .i64 (AA 4),.sl 855 0 1 (.ex 1),.bool false,.bool false,.bool false,.bool false,.int .i64 (AA 0),.int .i64 (AA 0),.nils,.nils,.int .i64 (AA 0),.bool false,.int .i64 (AA 0),.int .i64 (AA 4),.sl 903 0 1 (.ex 1),.bool false,.bool false,.bool false,.bool false,.int .i64 (AA 0),.int .i64 (AA 0),.nils,.nils,.int .i64 (AA 0),.bool false,.int .i64 (AA 0)]),
 (903,.cells [.int .i64 (AA 2),.int .i64 (AA 1)]),
 (905,.cells [.str ⟨1,99⟩,.int .i64 (AA 1),.bool true,.bool false,.int .i64 (AA 0),.int .i64 (AA 0),.nils,.nils,.int .i64 (AA 0),.nils,.int .i64 (AA 0),.str ⟨1,97⟩,.int .i64 (AA 2),.bool true,.bool false,.int .i64 (AA 0),.int .i64 (AA 0),.nils,.nils,.int .i64 (AA 0),.nils,.int .i64 (AA 0),.str ⟨1,100⟩,.int .i64 (AA 3),.bool true,.bool false,.int .i64 (AA 0),.int .i64 (AA 0),.nils,.nils,.int .i64 (AA 0),.nils,.int .i64 (AA 0),.str ⟨1,98⟩,.int .i64 (AA 4),.bool true,.bool false,.int .i64 (AA 0),.int .i64 (AA 0),.nils,.nils,.int .i64 (AA 0),.nils,.int .i64 (AA 0)]),
 (1087,.cells [.int .i64 (AA 0)]),
 (1114,.cells [.int .i64 (AA 2),.int .i64 (AA 2)])]⟩
theorem Rm:FC.right 2 ((DT [] 100000 60) 96)=true:=by kernel_rfl
theorem Gn:FC.shape=true:=by kernel_rfl
def E4:Bu:=⟨1100,[.agg [.str ⟨1,77⟩,.sl 672 0 1 (.op 1),.sl 1087 0 1 (.op 1),.sl 902 0 5 (.op 13)],.int .i64 (AA 1)],
 [(672,.cells [.str ⟨1,65⟩]),
 (690,.cells [.int .i64 (AA 0),.int .i64 (AA 17)]),
 (786,.cells [.int .i64 (AA 2),.int .i64 (AA 2)]),
 (816,.cells [.int .i64 (AA 2),.int .i64 (AA 0)]),
 (855,.cells [.int .i64 (AA 2),.int .i64 (AA 3)]),
 (902,.cells [.int .i64 (AA 8),.sl 690 0 1 (.ex 1),.bool false,.bool false,.bool false,.bool false,.int .i64 (AA 0),.int .i64 (AA 0),.nils,.sl 905 0 4 (.op 11),.int .i64 (AA 4),.bool false,.int .i64 (AA 0),.int .i64 (AA 4),.sl 786 0 1 (.ex 1),.bool false,.bool false,.bool false,.bool false,.int .i64 (AA 0),.int .i64 (AA 0),.nils,.nils,.int .i64 (AA 0),.bool false,.int .i64 (AA 0),.int .i64 (AA 4),.sl 816 0 1 (.ex 1),.bool false,.bool false,.bool false,.bool false,.int .i64 (AA 0),.int .i64 (AA 0),.nils,.nils,.int .i64 (AA 0),.bool false,.int .i64 (AA 0),.int .i64 (AA 4),.sl 855 0 1 (.ex 1),.bool false,.bool false,.bool false,.bool false,.int .i64 (AA 0),.int .i64 (AA 0),.nils,.nils,.int .i64 (AA 0),.bool false,.int .i64 (AA 0),.int .i64 (AA 4),.sl 903 0 1 (.ex 1),.bool false,.bool false,.bool false,.bool false,.int .i64 (AA 0),.int .i64 (AA 0),.nils,.nils,.int .i64 (AA 0),.bool false,.int .i64 (AA 0)]),
 (903,.cells [.int .i64 (AA 2),.int .i64 (AA 1)]),
 (905,.cells [.str ⟨1,99⟩,.int .i64 (AA 1),.bool true,.bool false,.int .i64 (AA 0),.int .i64 (AA 0),.nils,.nils,.int .i64 (AA 0),.nils,.int .i64 (AA 0),.str ⟨1,97⟩,.int .i64 (AA 2),.bool true,.bool false,.int .i64 (AA 0),.int .i64 (AA 0),.nils,.nils,.int .i64 (AA 0),.nils,.int .i64 (AA 0),.str ⟨1,100⟩,.int .i64 (AA 3),.bool true,.bool false,.int .i64 (AA 0),.int .i64 (AA 0),.nils,.nils,.int .i64 (AA 0),.nils,.int .i64 (AA 0),.str ⟨1,98⟩,.int .i64 (AA 4),.bool true,.bool false,.int .i64 (AA 0),.int .i64 (AA 0),.nils,.nils,.int .i64 (AA 0),.nils,.int .i64 (AA 0)]),
 (1087,.cells [.int .i64 (AA 0)])],
 .bool false,1106,
 [(672,.cells [.str ⟨1,65⟩]),
 (690,.cells [.int .i64 (AA 0),.int .i64 (AA 17)]),
 (786,.cells [.int .i64 (AA 2),.int .i64 (AA 2)]),
 (816,.cells [.int .i64 (AA 2),.int .i64 (AA 0)]),
 (855,.cells [.int .i64 (AA 2),.int .i64 (AA 3)]),
 (902,.cells [.int .i64 (AA 8),.sl 690 0 1 (.ex 1),.bool false,.bool false,.bool false,.bool false,.int .i64 (AA 0),.int .i64 (AA 0),.nils,.sl 905 0 4 (.op 11),.int .i64 (AA 4),.bool false,.int .i64 (AA 0),.int .i64 (AA 4),.sl 786 0 1 (.ex 1),.bool false,.bool false,.bool false,.bool false,.int .i64 (AA 0),.int .i64 (AA 0),.nils,.nils,.int .i64 (AA 0),.bool false,.int .i64 (AA 0),.int .i64 (AA 4),.sl 816 0 1 (.ex 1),.bool false,.bool false,.bool false,.bool false,.int .i64 (AA 0),.int .i64 (AA 0),.nils,.nils,.int .i64 (AA 0),.bool false,.int .i64 (AA 0),.int .i64 (AA 4),.sl 855 0 1 (.ex 1),.bool false,.bool false,.bool false,.bool false,.int .i64 (AA 0),.int .i64 (AA 0),.nils,.nils,.int .i64 (AA 0),.bool false,.int .i64 (AA 0),.int .i64 (AA 4),.sl 903 0 1 (.ex 1),.bool false,.bool false,.bool false,.bool false,.int .i64 (AA 0),.int .i64 (AA 0),.nils,.nils,.int .i64 (AA 0),.bool false,.int .i64 (AA 0)]),
 (903,.cells [.int .i64 (AA 2),.int .i64 (AA 1)]),
 (905,.cells [.str ⟨1,99⟩,.int .i64 (AA 1),.bool true,.bool false,.int .i64 (AA 0),.int .i64 (AA 0),.nils,.nils,.int .i64 (AA 0),.nils,.int .i64 (AA 0),.str ⟨1,97⟩,.int .i64 (AA 2),.bool true,.bool false,.int .i64 (AA 0),.int .i64 (AA 0),.nils,.nils,.int .i64 (AA 0),.nils,.int .i64 (AA 0),.str ⟨1,100⟩,.int .i64 (AA 3),.bool true,.bool false,.int .i64 (AA 0),.int .i64 (AA 0),.nils,.nils,.int .i64 (AA 0),.nils,.int .i64 (AA 0),.str ⟨1,98⟩,.int .i64 (AA 4),.bool true,.bool false,.int .i64 (AA 0),.int .i64 (AA 0),.nils,.nils,.int .i64 (AA 0),.nils,.int .i64 (AA 0)]),
 (1087,.cells [.int .i64 (AA 0)])]⟩
theorem Qz:E4.right 2 ((DT [] 100000 60) 97)=true:=by kernel_rfl
theorem LN:E4.shape=true:=by kernel_rfl
def FB:Bu:=⟨1100,[.agg [.str ⟨1,77⟩,.sl 672 0 1 (.op 1),.sl 1087 0 1 (.op 1),.sl 902 0 5 (.op 13)],.int .i64 (AA 2)],
 [(672,.cells [.str ⟨1,65⟩]),
 (690,.cells [.int .i64 (AA 0),.int .i64 (AA 17)]),
 (786,.cells [.int .i64 (AA 2),.int .i64 (AA 2)]),
 (816,.cells [.int .i64 (AA 2),.int .i64 (AA 0)]),
 (855,.cells [.int .i64 (AA 2),.int .i64 (AA 3)]),
 (902,.cells [.int .i64 (AA 8),.sl 690 0 1 (.ex 1),.bool false,.bool false,.bool false,.bool false,.int .i64 (AA 0),.int .i64 (AA 0),.nils,.sl 905 0 4 (.op 11),.int .i64 (AA 4),.bool false,.int .i64 (AA 0),.int .i64 (AA 4),.sl 786 0 1 (.ex 1),.bool false,.bool false,.bool false,.bool false,.int .i64 (AA 0),.int .i64 (AA 0),.nils,.nils,.int .i64 (AA 0),.bool false,.int .i64 (AA 0),.int .i64 (AA 4),.sl 816 0 1 (.ex 1),.bool false,.bool false,.bool false,.bool false,.int .i64 (AA 0),.int .i64 (AA 0),.nils,.nils,.int .i64 (AA 0),.bool false,.int .i64 (AA 0),.int .i64 (AA 4),.sl 855 0 1 (.ex 1),.bool false,.bool false,.bool false,.bool false,.int .i64 (AA 0),.int .i64 (AA 0),.nils,.nils,.int .i64 (AA 0),.bool false,.int .i64 (AA 0),.int .i64 (AA 4),.sl 903 0 1 (.ex 1),.bool false,.bool false,.bool false,.bool false,.int .i64 (AA 0),.int .i64 (AA 0),.nils,.nils,.int .i64 (AA 0),.bool false,.int .i64 (AA 0)]),
 (903,.cells [.int .i64 (AA 2),.int .i64 (AA 1)]),
 (905,.cells [.str ⟨1,99⟩,.int .i64 (AA 1),.bool true,.bool false,.int .i64 (AA 0),.int .i64 (AA 0),.nils,.nils,.int .i64 (AA 0),.nils,.int .i64 (AA 0),.str ⟨1,97⟩,.int .i64 (AA 2),.bool true,.bool false,.int .i64 (AA 0),.int .i64 (AA 0),.nils,.nils,.int .i64 (AA 0),.nils,.int .i64 (AA 0),.str ⟨1,100⟩,.int .i64 (AA 3),.bool true,.bool false,.int .i64 (AA 0),.int .i64 (AA 0),.nils,.nils,.int .i64 (AA 0),.nils,.int .i64 (AA 0),.str ⟨1,98⟩,.int .i64 (AA 4),.bool true,.bool false,.int .i64 (AA 0),.int .i64 (AA 0),.nils,.nils,.int .i64 (AA 0),.nils,.int .i64 (AA 0)]),
 (1087,.cells [.int .i64 (AA 0)])],
 .sl 1114 0 1 (.op 2),1115,
 [(672,.cells [.str ⟨1,65⟩]),
 (690,.cells [.int .i64 (AA 0),.int .i64 (AA 17)]),
 (786,.cells [.int .i64 (AA 2),.int .i64 (AA 2)]),
 (816,.cells [.int .i64 (AA 2),.int .i64 (AA 0)]),
 (855,.cells [.int .i64 (AA 2),.int .i64 (AA 3)]),
 (902,.cells [.int .i64 (AA 8),.sl 690 0 1 (.ex 1),.bool false,.bool false,.bool false,.bool false,.int .i64 (AA 0),.int .i64 (AA 0),.nils,.sl 905 0 4 (.op 11),.int .i64 (AA 4),.bool false,.int .i64 (AA 0),.int .i64 (AA 4),.sl 786 0 1 (.ex 1),.bool false,.bool false,.bool false,.bool false,.int .i64 (AA 0),.int .i64 (AA 0),.nils,.nils,.int .i64 (AA 0),.bool false,.int .i64 (AA 0),.int .i64 (AA 4),.sl 816 0 1 (.ex 1),.bool false,.bool false,.bool false,.bool false,.int .i64 (AA 0),.int .i64 (AA 0),.nils,.nils,.int .i64 (AA 0),.bool false,.int .i64 (AA 0),.int .i64 (AA 4),.sl 855 0 1 (.ex 1),.bool false,.bool false,.bool false,.bool false,.int .i64 (AA 0),.int .i64 (AA 0),.nils,.nils,.int .i64 (AA 0),.bool false,.int .i64 (AA 0),.int .i64 (AA 4),.sl 903 0 1 (.ex 1),.bool false,.bool false,.bool false,.bool false,.int .i64 (AA 0),.int .i64 (AA 0),.nils,.nils,.int .i64 (AA 0),.bool false,.int .i64 (AA 0)]),
 (903,.cells [.int .i64 (AA 2),.int .i64 (AA 1)]),
 (905,.cells [.str ⟨1,99⟩,.int .i64 (AA 1),.bool true,.bool false,.int .i64 (AA 0),.int .i64 (AA 0),.nils,.nils,.int .i64 (AA 0),.nils,.int .i64 (AA 0),.str ⟨1,97⟩,.int .i64 (AA 2),.bool true,.bool false,.int .i64 (AA 0),.int .i64 (AA 0),.nils,.nils,.int .i64 (AA 0),.nils,.int .i64 (AA 0),.str ⟨1,100⟩,.int .i64 (AA 3),.bool true,.bool false,.int .i64 (AA 0),.int .i64 (AA 0),.nils,.nils,.int .i64 (AA 0),.nils,.int .i64 (AA 0),.str ⟨1,98⟩,.int .i64 (AA 4),.bool true,.bool false,.int .i64 (AA 0),.int .i64 (AA 0),.nils,.nils,.int .i64 (AA 0),.nils,.int .i64 (AA 0)]),
 (1087,.cells [.int .i64 (AA 0)]),
 (1114,.cells [.int .i64 (AA 2),.int .i64 (AA 0)])]⟩
theorem Rl:FB.right 2 ((DT [] 100000 60) 96)=true:=by kernel_rfl
theorem Gm:FB.shape=true:=by kernel_rfl
def E3:Bu:=⟨1100,[.agg [.str ⟨1,77⟩,.sl 672 0 1 (.op 1),.sl 1087 0 1 (.op 1),.sl 902 0 5 (.op 13)],.int .i64 (AA 2)],
 [(672,.cells [.str ⟨1,65⟩]),
 (690,.cells [.int .i64 (AA 0),.int .i64 (AA 17)]),
 (786,.cells [.int .i64 (AA 2),.int .i64 (AA 2)]),
 (816,.cells [.int .i64 (AA 2),.int .i64 (AA 0)]),
 (855,.cells [.int .i64 (AA 2),.int .i64 (AA 3)]),
 (902,.cells [.int .i64 (AA 8),.sl 690 0 1 (.ex 1),.bool false,.bool false,.bool false,.bool false,.int .i64 (AA 0),.int .i64 (AA 0),.nils,.sl 905 0 4 (.op 11),.int .i64 (AA 4),.bool false,.int .i64 (AA 0),.int .i64 (AA 4),.sl 786 0 1 (.ex 1),.bool false,.bool false,.bool false,.bool false,.int .i64 (AA 0),.int .i64 (AA 0),.nils,.nils,.int .i64 (AA 0),.bool false,.int .i64 (AA 0),.int .i64 (AA 4),.sl 816 0 1 (.ex 1),.bool false,.bool false,.bool false,.bool false,.int .i64 (AA 0),.int .i64 (AA 0),.nils,.nils,.int .i64 (AA 0),.bool false,.int .i64 (AA 0),.int .i64 (AA 4),.sl 855 0 1 (.ex 1),.bool false,.bool false,.bool false,.bool false,.int .i64 (AA 0),.int .i64 (AA 0),.nils,.nils,.int .i64 (AA 0),.bool false,.int .i64 (AA 0),.int .i64 (AA 4),.sl 903 0 1 (.ex 1),.bool false,.bool false,.bool false,.bool false,.int .i64 (AA 0),.int .i64 (AA 0),.nils,.nils,.int .i64 (AA 0),.bool false,.int .i64 (AA 0)]),
 (903,.cells [.int .i64 (AA 2),.int .i64 (AA 1)]),
 (905,.cells [.str ⟨1,99⟩,.int .i64 (AA 1),.bool true,.bool false,.int .i64 (AA 0),.int .i64 (AA 0),.nils,.nils,.int .i64 (AA 0),.nils,.int .i64 (AA 0),.str ⟨1,97⟩,.int .i64 (AA 2),.bool true,.bool false,.int .i64 (AA 0),.int .i64 (AA 0),.nils,.nils,.int .i64 (AA 0),.nils,.int .i64 (AA 0),.str ⟨1,100⟩,.int .i64 (AA 3),.bool true,.bool false,.int .i64 (AA 0),.int .i64 (AA 0),.nils,.nils,.int .i64 (AA 0),.nils,.int .i64 (AA 0),.str ⟨1,98⟩,.int .i64 (AA 4),.bool true,.bool false,.int .i64 (AA 0),.int .i64 (AA 0),.nils,.nils,.int .i64 (AA 0),.nils,.int .i64 (AA 0)]),
 (1087,.cells [.int .i64 (AA 0)])],
 .bool false,1106,
 [(672,.cells [.str ⟨1,65⟩]),
 (690,.cells [.int .i64 (AA 0),.int .i64 (AA 17)]),
 (786,.cells [.int .i64 (AA 2),.int .i64 (AA 2)]),
 (816,.cells [.int .i64 (AA 2),.int .i64 (AA 0)]),
 (855,.cells [.int .i64 (AA 2),.int .i64 (AA 3)]),
 (902,.cells [.int .i64 (AA 8),.sl 690 0 1 (.ex 1),.bool false,.bool false,.bool false,.bool false,.int .i64 (AA 0),.int .i64 (AA 0),.nils,.sl 905 0 4 (.op 11),.int .i64 (AA 4),.bool false,.int .i64 (AA 0),.int .i64 (AA 4),.sl 786 0 1 (.ex 1),.bool false,.bool false,.bool false,.bool false,.int .i64 (AA 0),.int .i64 (AA 0),.nils,.nils,.int .i64 (AA 0),.bool false,.int .i64 (AA 0),.int .i64 (AA 4),.sl 816 0 1 (.ex 1),.bool false,.bool false,.bool false,.bool false,.int .i64 (AA 0),.int .i64 (AA 0),.nils,.nils,.int .i64 (AA 0),.bool false,.int .i64 (AA 0),.int .i64 (AA 4),.sl 855 0 1 (.ex 1),.bool false,.bool false,.bool false,.bool false,.int .i64 (AA 0),.int .i64 (AA 0),.nils,.nils,.int .i64 (AA 0),.bool false,.int .i64 (AA 0),.int .i64 (AA 4),.sl 903 0 1 (.ex 1),.bool false,.bool false,.bool false,.bool false,.int .i64 (AA 0),.int .i64 (AA 0),.nils,.nils,.int .i64 (AA 0),.bool false,.int .i64 (AA 0)]),
 (903,.cells [.int .i64 (AA 2),.int .i64 (AA 1)]),
 (905,.cells [.str ⟨1,99⟩,.int .i64 (AA 1),.bool true,.bool false,.int .i64 (AA 0),.int .i64 (AA 0),.nils,.nils,.int .i64 (AA 0),.nils,.int .i64 (AA 0),.str ⟨1,97⟩,.int .i64 (AA 2),.bool true,.bool false,.int .i64 (AA 0),.int .i64 (AA 0),.nils,.nils,.int .i64 (AA 0),.nils,.int .i64 (AA 0),.str ⟨1,100⟩,.int .i64 (AA 3),.bool true,.bool false,.int .i64 (AA 0),.int .i64 (AA 0),.nils,.nils,.int .i64 (AA 0),.nils,.int .i64 (AA 0),.str ⟨1,98⟩,.int .i64 (AA 4),.bool true,.bool false,.int .i64 (AA 0),.int .i64 (AA 0),.nils,.nils,.int .i64 (AA 0),.nils,.int .i64 (AA 0)]),
 (1087,.cells [.int .i64 (AA 0)])]⟩
theorem Qy:E3.right 2 ((DT [] 100000 60) 97)=true:=by kernel_rfl
theorem LM:E3.shape=true:=by kernel_rfl
def FA:Bu:=⟨1100,[.agg [.str ⟨1,77⟩,.sl 672 0 1 (.op 1),.sl 1087 0 1 (.op 1),.sl 902 0 5 (.op 13)],.int .i64 (AA 3)],
 [(672,.cells [.str ⟨1,65⟩]),
 (690,.cells [.int .i64 (AA 0),.int .i64 (AA 17)]),
 (786,.cells [.int .i64 (AA 2),.int .i64 (AA 2)]),
 (816,.cells [.int .i64 (AA 2),.int .i64 (AA 0)]),
 (855,.cells [.int .i64 (AA 2),.int .i64 (AA 3)]),
 (902,.cells [.int .i64 (AA 8),.sl 690 0 1 (.ex 1),.bool false,.bool false,.bool false,.bool false,.int .i64 (AA 0),.int .i64 (AA 0),.nils,.sl 905 0 4 (.op 11),.int .i64 (AA 4),.bool false,.int .i64 (AA 0),.int .i64 (AA 4),.sl 786 0 1 (.ex 1),.bool false,.bool false,.bool false,.bool false,.int .i64 (AA 0),.int .i64 (AA 0),.nils,.nils,.int .i64 (AA 0),.bool false,.int .i64 (AA 0),.int .i64 (AA 4),.sl 816 0 1 (.ex 1),.bool false,.bool false,.bool false,.bool false,.int .i64 (AA 0),.int .i64 (AA 0),.nils,.nils,.int .i64 (AA 0),.bool false,.int .i64 (AA 0),.int .i64 (AA 4),.sl 855 0 1 (.ex 1),.bool false,.bool false,.bool false,.bool false,.int .i64 (AA 0),.int .i64 (AA 0),.nils,.nils,.int .i64 (AA 0),.bool false,.int .i64 (AA 0),.int .i64 (AA 4),.sl 903 0 1 (.ex 1),.bool false,.bool false,.bool false,.bool false,.int .i64 (AA 0),.int .i64 (AA 0),.nils,.nils,.int .i64 (AA 0),.bool false,.int .i64 (AA 0)]),
 (903,.cells [.int .i64 (AA 2),.int .i64 (AA 1)]),
 (905,.cells [.str ⟨1,99⟩,.int .i64 (AA 1),.bool true,.bool false,.int .i64 (AA 0),.int .i64 (AA 0),.nils,.nils,.int .i64 (AA 0),.nils,.int .i64 (AA 0),.str ⟨1,97⟩,.int .i64 (AA 2),.bool true,.bool false,.int .i64 (AA 0),.int .i64 (AA 0),.nils,.nils,.int .i64 (AA 0),.nils,.int .i64 (AA 0),.str ⟨1,100⟩,.int .i64 (AA 3),.bool true,.bool false,.int .i64 (AA 0),.int .i64 (AA 0),.nils,.nils,.int .i64 (AA 0),.nils,.int .i64 (AA 0),.str ⟨1,98⟩,.int .i64 (AA 4),.bool true,.bool false,.int .i64 (AA 0),.int .i64 (AA 0),.nils,.nils,.int .i64 (AA 0),.nils,.int .i64 (AA 0)]),
 (1087,.cells [.int .i64 (AA 0)])],
 .sl 1114 0 1 (.op 2),1115,
 [(672,.cells [.str ⟨1,65⟩]),
 (690,.cells [.int .i64 (AA 0),.int .i64 (AA 17)]),
 (786,.cells [.int .i64 (AA 2),.int .i64 (AA 2)]),
 (816,.cells [.int .i64 (AA 2),.int .i64 (AA 0)]),
 (855,.cells [.int .i64 (AA 2),.int .i64 (AA 3)]),
 (902,.cells [.int .i64 (AA 8),.sl 690 0 1 (.ex 1),.bool false,.bool false,.bool false,.bool false,.int .i64 (AA 0),.int .i64 (AA 0),.nils,.sl 905 0 4 (.op 11),.int .i64 (AA 4),.bool false,.int .i64 (AA 0),.int .i64 (AA 4),.sl 786 0 1 (.ex 1),.bool false,.bool false,.bool false,.bool false,.int .i64 (AA 0),.int .i64 (AA 0),.nils,.nils,.int .i64 (AA 0),.bool false,.int .i64 (AA 0),.int .i64 (AA 4),.sl 816 0 1 (.ex 1),.bool false,.bool false,.bool false,.bool false,.int .i64 (AA 0),.int .i64 (AA 0),.nils,.nils,.int .i64 (AA 0),.bool false,.int .i64 (AA 0),.int .i64 (AA 4),.sl 855 0 1 (.ex 1),.bool false,.bool false,.bool false,.bool false,.int .i64 (AA 0),.int .i64 (AA 0),.nils,.nils,.int .i64 (AA 0),.bool false,.int .i64 (AA 0),.int .i64 (AA 4),.sl 903 0 1 (.ex 1),.bool false,.bool false,.bool false,.bool false,.int .i64 (AA 0),.int .i64 (AA 0),.nils,.nils,.int .i64 (AA 0),.bool false,.int .i64 (AA 0)]),
 (903,.cells [.int .i64 (AA 2),.int .i64 (AA 1)]),
 (905,.cells [.str ⟨1,99⟩,.int .i64 (AA 1),.bool true,.bool false,.int .i64 (AA 0),.int .i64 (AA 0),.nils,.nils,.int .i64 (AA 0),.nils,.int .i64 (AA 0),.str ⟨1,97⟩,.int .i64 (AA 2),.bool true,.bool false,.int .i64 (AA 0),.int .i64 (AA 0),.nils,.nils,.int .i64 (AA 0),.nils,.int .i64 (AA 0),.str ⟨1,100⟩,.int .i64 (AA 3),.bool true,.bool false,.int .i64 (AA 0),.int .i64 (AA 0),.nils,.nils,.int .i64 (AA 0),.nils,.int .i64 (AA 0),.str ⟨1,98⟩,.int .i64 (AA 4),.bool true,.bool false,.int .i64 (AA 0),.int .i64 (AA 0),.nils,.nils,.int .i64 (AA 0),.nils,.int .i64 (AA 0)]),
 (1087,.cells [.int .i64 (AA 0)]),
 (1114,.cells [.int .i64 (AA 2),.int .i64 (AA 3)])]⟩
theorem Rk:FA.right 2 ((DT [] 100000 60) 96)=true:=by kernel_rfl
theorem Gl:FA.shape=true:=by kernel_rfl
def E2:Bu:=⟨1100,[.agg [.str ⟨1,77⟩,.sl 672 0 1 (.op 1),.sl 1087 0 1 (.op 1),.sl 902 0 5 (.op 13)],.int .i64 (AA 3)],
 [(672,.cells [.str ⟨1,65⟩]),
 (690,.cells [.int .i64 (AA 0),.int .i64 (AA 17)]),
 (786,.cells [.int .i64 (AA 2),.int .i64 (AA 2)]),
 (816,.cells [.int .i64 (AA 2),.int .i64 (AA 0)]),
 (855,.cells [.int .i64 (AA 2),.int .i64 (AA 3)]),
 (902,.cells [.int .i64 (AA 8),.sl 690 0 1 (.ex 1),.bool false,.bool false,.bool false,.bool false,.int .i64 (AA 0),.int .i64 (AA 0),.nils,.sl 905 0 4 (.op 11),.int .i64 (AA 4),.bool false,.int .i64 (AA 0),.int .i64 (AA 4),.sl 786 0 1 (.ex 1),.bool false,.bool false,.bool false,.bool false,.int .i64 (AA 0),.int .i64 (AA 0),.nils,.nils,.int .i64 (AA 0),.bool false,.int .i64 (AA 0),.int .i64 (AA 4),.sl 816 0 1 (.ex 1),.bool false,.bool false,.bool false,.bool false,.int .i64 (AA 0),.int .i64 (AA 0),.nils,.nils,.int .i64 (AA 0),.bool false,.int .i64 (AA 0),.int .i64 (AA 4),.sl 855 0 1 (.ex 1),.bool false,.bool false,.bool false,.bool false,.int .i64 (AA 0),.int .i64 (AA 0),.nils,.nils,.int .i64 (AA 0),.bool false,.int .i64 (AA 0),.int .i64 (AA 4),.sl 903 0 1 (.ex 1),.bool false,.bool false,.bool false,.bool false,.int .i64 (AA 0),.int .i64 (AA 0),.nils,.nils,.int .i64 (AA 0),.bool false,.int .i64 (AA 0)]),
 (903,.cells [.int .i64 (AA 2),.int .i64 (AA 1)]),
 (905,.cells [.str ⟨1,99⟩,.int .i64 (AA 1),.bool true,.bool false,.int .i64 (AA 0),.int .i64 (AA 0),.nils,.nils,.int .i64 (AA 0),.nils,.int .i64 (AA 0),.str ⟨1,97⟩,.int .i64 (AA 2),.bool true,.bool false,.int .i64 (AA 0),.int .i64 (AA 0),.nils,.nils,.int .i64 (AA 0),.nils,.int .i64 (AA 0),.str ⟨1,100⟩,.int .i64 (AA 3),.bool true,.bool false,.int .i64 (AA 0),.int .i64 (AA 0),.nils,.nils,.int .i64 (AA 0),.nils,.int .i64 (AA 0),.str ⟨1,98⟩,.int .i64 (AA 4),.bool true,.bool false,.int .i64 (AA 0),.int .i64 (AA 0),.nils,.nils,.int .i64 (AA 0),.nils,.int .i64 (AA 0)]),
 (1087,.cells [.int .i64 (AA 0)])],
 .bool false,1106,
 [(672,.cells [.str ⟨1,65⟩]),
 (690,.cells [.int .i64 (AA 0),.int .i64 (AA 17)]),
 (786,.cells [.int .i64 (AA 2),.int .i64 (AA 2)]),
 (816,.cells [.int .i64 (AA 2),.int .i64 (AA 0)]),
 (855,.cells [.int .i64 (AA 2),.int .i64 (AA 3)]),
 (902,.cells [.int .i64 (AA 8),.sl 690 0 1 (.ex 1),.bool false,.bool false,.bool false,.bool false,.int .i64 (AA 0),.int .i64 (AA 0),.nils,.sl 905 0 4 (.op 11),.int .i64 (AA 4),.bool false,.int .i64 (AA 0),.int .i64 (AA 4),.sl 786 0 1 (.ex 1),.bool false,.bool false,.bool false,.bool false,.int .i64 (AA 0),.int .i64 (AA 0),.nils,.nils,.int .i64 (AA 0),.bool false,.int .i64 (AA 0),.int .i64 (AA 4),.sl 816 0 1 (.ex 1),.bool false,.bool false,.bool false,.bool false,.int .i64 (AA 0),.int .i64 (AA 0),.nils,.nils,.int .i64 (AA 0),.bool false,.int .i64 (AA 0),.int .i64 (AA 4),.sl 855 0 1 (.ex 1),.bool false,.bool false,.bool false,.bool false,.int .i64 (AA 0),.int .i64 (AA 0),.nils,.nils,.int .i64 (AA 0),.bool false,.int .i64 (AA 0),.int .i64 (AA 4),.sl 903 0 1 (.ex 1),.bool false,.bool false,.bool false,.bool false,.int .i64 (AA 0),.int .i64 (AA 0),.nils,.nils,.int .i64 (AA 0),.bool false,.int .i64 (AA 0)]),
 (903,.cells [.int .i64 (AA 2),.int .i64 (AA 1)]),
 (905,.cells [.str ⟨1,99⟩,.int .i64 (AA 1),.bool true,.bool false,.int .i64 (AA 0),.int .i64 (AA 0),.nils,.nils,.int .i64 (AA 0),.nils,.int .i64 (AA 0),.str ⟨1,97⟩,.int .i64 (AA 2),.bool true,.bool false,.int .i64 (AA 0),.int .i64 (AA 0),.nils,.nils,.int .i64 (AA 0),.nils,.int .i64 (AA 0),.str ⟨1,100⟩,.int .i64 (AA 3),.bool true,.bool false,.int .i64 (AA 0),.int .i64 (AA 0),.nils,.nils,.int .i64 (AA 0),.nils,.int .i64 (AA 0),.str ⟨1,98⟩,.int .i64 (AA 4),.bool true,.bool false,.int .i64 (AA 0),.int .i64 (AA 0),.nils,.nils,.int .i64 (AA 0),.nils,.int .i64 (AA 0)]),
 (1087,.cells [.int .i64 (AA 0)])]⟩
theorem Qx:E2.right 2 ((DT [] 100000 60) 97)=true:=by kernel_rfl
theorem LL:E2.shape=true:=by kernel_rfl
def E9:Bu:=⟨1100,[.agg [.str ⟨1,77⟩,.sl 672 0 1 (.op 1),.sl 1087 0 1 (.op 1),.sl 902 0 5 (.op 13)],.int .i64 (AA 4)],
 [(672,.cells [.str ⟨1,65⟩]),
 (690,.cells [.int .i64 (AA 0),.int .i64 (AA 17)]),
 (786,.cells [.int .i64 (AA 2),.int .i64 (AA 2)]),
 (816,.cells [.int .i64 (AA 2),.int .i64 (AA 0)]),
 (855,.cells [.int .i64 (AA 2),.int .i64 (AA 3)]),
 (902,.cells [.int .i64 (AA 8),.sl 690 0 1 (.ex 1),.bool false,.bool false,.bool false,.bool false,.int .i64 (AA 0),.int .i64 (AA 0),.nils,.sl 905 0 4 (.op 11),.int .i64 (AA 4),.bool false,.int .i64 (AA 0),.int .i64 (AA 4),.sl 786 0 1 (.ex 1),.bool false,.bool false,.bool false,.bool false,.int .i64 (AA 0),.int .i64 (AA 0),.nils,.nils,.int .i64 (AA 0),.bool false,.int .i64 (AA 0),.int .i64 (AA 4),.sl 816 0 1 (.ex 1),.bool false,.bool false,.bool false,.bool false,.int .i64 (AA 0),.int .i64 (AA 0),.nils,.nils,.int .i64 (AA 0),.bool false,.int .i64 (AA 0),.int .i64 (AA 4),.sl 855 0 1 (.ex 1),.bool false,.bool false,.bool false,.bool false,.int .i64 (AA 0),.int .i64 (AA 0),.nils,.nils,.int .i64 (AA 0),.bool false,.int .i64 (AA 0),.int .i64 (AA 4),.sl 903 0 1 (.ex 1),.bool false,.bool false,.bool false,.bool false,.int .i64 (AA 0),.int .i64 (AA 0),.nils,.nils,.int .i64 (AA 0),.bool false,.int .i64 (AA 0)]),
 (903,.cells [.int .i64 (AA 2),.int .i64 (AA 1)]),
 (905,.cells [.str ⟨1,99⟩,.int .i64 (AA 1),.bool true,.bool false,.int .i64 (AA 0),.int .i64 (AA 0),.nils,.nils,.int .i64 (AA 0),.nils,.int .i64 (AA 0),.str ⟨1,97⟩,.int .i64 (AA 2),.bool true,.bool false,.int .i64 (AA 0),.int .i64 (AA 0),.nils,.nils,.int .i64 (AA 0),.nils,.int .i64 (AA 0),.str ⟨1,100⟩,.int .i64 (AA 3),.bool true,.bool false,.int .i64 (AA 0),.int .i64 (AA 0),.nils,.nils,.int .i64 (AA 0),.nils,.int .i64 (AA 0),.str ⟨1,98⟩,.int .i64 (AA 4),.bool true,.bool false,.int .i64 (AA 0),.int .i64 (AA 0),.nils,.nils,.int .i64 (AA 0),.nils,.int .i64 (AA 0)]),
 (1087,.cells [.int .i64 (AA 0)])],
 .sl 1114 0 1 (.op 2),1115,
 [(672,.cells [.str ⟨1,65⟩]),
 (690,.cells [.int .i64 (AA 0),.int .i64 (AA 17)]),
 (786,.cells [.int .i64 (AA 2),.int .i64 (AA 2)]),
 (816,.cells [.int .i64 (AA 2),.int .i64 (AA 0)]),
 (855,.cells [.int .i64 (AA 2),.int .i64 (AA 3)]),
 (902,.cells [.int .i64 (AA 8),.sl 690 0 1 (.ex 1),.bool false,.bool false,.bool false,.bool false,.int .i64 (AA 0),.int .i64 (AA 0),.nils,.sl 905 0 4 (.op 11),.int .i64 (AA 4),.bool false,.int .i64 (AA 0),.int .i64 (AA 4),.sl 786 0 1 (.ex 1),.bool false,.bool false,.bool false,.bool false,.int .i64 (AA 0),.int .i64 (AA 0),.nils,.nils,.int .i64 (AA 0),.bool false,.int .i64 (AA 0),.int .i64 (AA 4),.sl 816 0 1 (.ex 1),.bool false,.bool false,.bool false,.bool false,.int .i64 (AA 0),.int .i64 (AA 0),.nils,.nils,.int .i64 (AA 0),.bool false,.int .i64 (AA 0),.int .i64 (AA 4),.sl 855 0 1 (.ex 1),.bool false,.bool false,.bool false,.bool false,.int .i64 (AA 0),.int .i64 (AA 0),.nils,.nils,.int .i64 (AA 0),.bool false,.int .i64 (AA 0),.int .i64 (AA 4),.sl 903 0 1 (.ex 1),.bool false,.bool false,.bool false,.bool false,.int .i64 (AA 0),.int .i64 (AA 0),.nils,.nils,.int .i64 (AA 0),.bool false,.int .i64 (AA 0)]),
 (903,.cells [.int .i64 (AA 2),.int .i64 (AA 1)]),
 (905,.cells [.str ⟨1,99⟩,.int .i64 (AA 1),.bool true,.bool false,.int .i64 (AA 0),.int .i64 (AA 0),.nils,.nils,.int .i64 (AA 0),.nils,.int .i64 (AA 0),.str ⟨1,97⟩,.int .i64 (AA 2),.bool true,.bool false,.int .i64 (AA 0),.int .i64 (AA 0),.nils,.nils,.int .i64 (AA 0),.nils,.int .i64 (AA 0),.str ⟨1,100⟩,.int .i64 (AA 3),.bool true,.bool false,.int .i64 (AA 0),.int .i64 (AA 0),.nils,.nils,.int .i64 (AA 0),.nils,.int .i64 (AA 0),.str ⟨1,98⟩,.int .i64 (AA 4),.bool true,.bool false,.int .i64 (AA 0),.int .i64 (AA 0),.nils,.nils,.int .i64 (AA 0),.nils,.int .i64 (AA 0)]),
 (1087,.cells [.int .i64 (AA 0)]),
 (1114,.cells [.int .i64 (AA 2),.int .i64 (AA 1)])]⟩
theorem Rj:E9.right 2 ((DT [] 100000 60) 96)=true:=by kernel_rfl
theorem Gk:E9.shape=true:=by kernel_rfl
def E1:Bu:=⟨1100,[.agg [.str ⟨1,77⟩,.sl 672 0 1 (.op 1),.sl 1087 0 1 (.op 1),.sl 902 0 5 (.op 13)],.int .i64 (AA 4)],
 [(672,.cells [.str ⟨1,65⟩]),
 (690,.cells [.int .i64 (AA 0),.int .i64 (AA 17)]),
 (786,.cells [.int .i64 (AA 2),.int .i64 (AA 2)]),
 (816,.cells [.int .i64 (AA 2),.int .i64 (AA 0)]),
 (855,.cells [.int .i64 (AA 2),.int .i64 (AA 3)]),
 (902,.cells [.int .i64 (AA 8),.sl 690 0 1 (.ex 1),.bool false,.bool false,.bool false,.bool false,.int .i64 (AA 0),.int .i64 (AA 0),.nils,.sl 905 0 4 (.op 11),.int .i64 (AA 4),.bool false,.int .i64 (AA 0),.int .i64 (AA 4),.sl 786 0 1 (.ex 1),.bool false,.bool false,.bool false,.bool false,.int .i64 (AA 0),.int .i64 (AA 0),.nils,.nils,.int .i64 (AA 0),.bool false,.int .i64 (AA 0),.int .i64 (AA 4),.sl 816 0 1 (.ex 1),.bool false,.bool false,.bool false,.bool false,.int .i64 (AA 0),.int .i64 (AA 0),.nils,.nils,.int .i64 (AA 0),.bool false,.int .i64 (AA 0),.int .i64 (AA 4),.sl 855 0 1 (.ex 1),.bool false,.bool false,.bool false,.bool false,.int .i64 (AA 0),.int .i64 (AA 0),.nils,.nils,.int .i64 (AA 0),.bool false,.int .i64 (AA 0),.int .i64 (AA 4),.sl 903 0 1 (.ex 1),.bool false,.bool false,.bool false,.bool false,.int .i64 (AA 0),.int .i64 (AA 0),.nils,.nils,.int .i64 (AA 0),.bool false,.int .i64 (AA 0)]),
 (903,.cells [.int .i64 (AA 2),.int .i64 (AA 1)]),
 (905,.cells [.str ⟨1,99⟩,.int .i64 (AA 1),.bool true,.bool false,.int .i64 (AA 0),.int .i64 (AA 0),.nils,.nils,.int .i64 (AA 0),.nils,.int .i64 (AA 0),.str ⟨1,97⟩,.int .i64 (AA 2),.bool true,.bool false,.int .i64 (AA 0),.int .i64 (AA 0),.nils,.nils,.int .i64 (AA 0),.nils,.int .i64 (AA 0),.str ⟨1,100⟩,.int .i64 (AA 3),.bool true,.bool false,.int .i64 (AA 0),.int .i64 (AA 0),.nils,.nils,.int .i64 (AA 0),.nils,.int .i64 (AA 0),.str ⟨1,98⟩,.int .i64 (AA 4),.bool true,.bool false,.int .i64 (AA 0),.int .i64 (AA 0),.nils,.nils,.int .i64 (AA 0),.nils,.int .i64 (AA 0)]),
 (1087,.cells [.int .i64 (AA 0)])],
 .bool false,1106,
 [(672,.cells [.str ⟨1,65⟩]),
 (690,.cells [.int .i64 (AA 0),.int .i64 (AA 17)]),
 (786,.cells [.int .i64 (AA 2),.int .i64 (AA 2)]),
 (816,.cells [.int .i64 (AA 2),.int .i64 (AA 0)]),
 (855,.cells [.int .i64 (AA 2),.int .i64 (AA 3)]),
 (902,.cells [.int .i64 (AA 8),.sl 690 0 1 (.ex 1),.bool false,.bool false,.bool false,.bool false,.int .i64 (AA 0),.int .i64 (AA 0),.nils,.sl 905 0 4 (.op 11),.int .i64 (AA 4),.bool false,.int .i64 (AA 0),.int .i64 (AA 4),.sl 786 0 1 (.ex 1),.bool false,.bool false,.bool false,.bool false,.int .i64 (AA 0),.int .i64 (AA 0),.nils,.nils,.int .i64 (AA 0),.bool false,.int .i64 (AA 0),.int .i64 (AA 4),.sl 816 0 1 (.ex 1),.bool false,.bool false,.bool false,.bool false,.int .i64 (AA 0),.int .i64 (AA 0),.nils,.nils,.int .i64 (AA 0),.bool false,.int .i64 (AA 0),.int .i64 (AA 4),.sl 855 0 1 (.ex 1),.bool false,.bool false,.bool false,.bool false,.int .i64 (AA 0),.int .i64 (AA 0),.nils,.nils,.int .i64 (AA 0),.bool false,.int .i64 (AA 0),.int .i64 (AA 4),.sl 903 0 1 (.ex 1),.bool false,.bool false,.bool false,.bool false,.int .i64 (AA 0),.int .i64 (AA 0),.nils,.nils,.int .i64 (AA 0),.bool false,.int .i64 (AA 0)]),
 (903,.cells [.int .i64 (AA 2),.int .i64 (AA 1)]),
 (905,.cells [.str ⟨1,99⟩,.int .i64 (AA 1),.bool true,.bool false,.int .i64 (AA 0),.int .i64 (AA 0),.nils,.nils,.int .i64 (AA 0),.nils,.int .i64 (AA 0),.str ⟨1,97⟩,.int .i64 (AA 2),.bool true,.bool false,.int .i64 (AA 0),.int .i64 (AA 0),.nils,.nils,.int .i64 (AA 0),.nils,.int .i64 (AA 0),.str ⟨1,100⟩,.int .i64 (AA 3),.bool true,.bool false,.int .i64 (AA 0),.int .i64 (AA 0),.nils,.nils,.int .i64 (AA 0),.nils,.int .i64 (AA 0),.str ⟨1,98⟩,.int .i64 (AA 4),.bool true,.bool false,.int .i64 (AA 0),.int .i64 (AA 0),.nils,.nils,.int .i64 (AA 0),.nils,.int .i64 (AA 0)]),
 (1087,.cells [.int .i64 (AA 0)])]⟩
theorem Qw:E1.right 2 ((DT [] 100000 60) 97)=true:=by kernel_rfl
theorem LK:E1.shape=true:=by kernel_rfl
def bO (b:Bool):List V:=match b with
 | true=>[.int .i64 (AA 4),.int .i64 (AA 0),.nils,.nils,.int .i64 (AA 0),.nils]
 | false=>[.int .i64 (AA 0),.int .i64 (AA 0),.nils,.nils,.int .i64 (AA 0),.nils]
def Ir (T:Bu) (g:V) (K:Nat) (a b c d:Bool) (id n n1:Nat) (cp:T3) (o:List V):Bu:=⟨T.n1,[g,.int .i64 (AA 0),.agg [.int .i64 (AA K),.int .i64 (AA 0),.nils,.sl 50 0 4 (.ex 4),.int .i64 (AA 0),.nils]],(50,.cells (bO a++(bO b++(bO c++bO d))))::T.bl1,.tup [.sl id 0 n cp,.int .i64 (AA 0)],n1,(id,.cells o)::(50,.cells (bO a++(bO b++(bO c++bO d))))::T.bl1⟩
def Jb:V := .agg [.str ⟨1,77⟩,.sl 706 0 1 (.op 1),.sl 1383 0 1 (.op 1),.sl 936 0 5 (.op 13)]
def Ja:V := .agg [.str ⟨1,77⟩,.sl 672 0 1 (.op 1),.sl 1087 0 1 (.op 1),.sl 902 0 5 (.op 13)]
def Ri:Bu:=Ir H9 Jb 7 false false false false 1473 2 1474 (.op 1) [.int .u8 (AA 48),.int .u8 (AA 0)]
theorem Rh:Ri.right 2 (DT [] 100000 60 16)=true:=by kernel_rfl
def Rf:Bu:=Ir H9 Jb 7 true false false false 1499 4 1500 (.op 1) [.int .u8 (AA 48),.int .u8 (AA 2),.int .u8 (AA 130),.int .u8 (AA 0)]
theorem Re:Rf.right 2 (DT [] 100000 60 16)=true:=by kernel_rfl
def Rd:Bu:=Ir H9 Jb 7 false true false false 1499 4 1500 (.op 1) [.int .u8 (AA 48),.int .u8 (AA 2),.int .u8 (AA 128),.int .u8 (AA 0)]
theorem Rc:Rd.right 2 (DT [] 100000 60 16)=true:=by kernel_rfl
def Rb:Bu:=Ir H9 Jb 7 true true false false 1523 6 1524 (.op 1) [.int .u8 (AA 48),.int .u8 (AA 4),.int .u8 (AA 130),.int .u8 (AA 0),.int .u8 (AA 128),.int .u8 (AA 0)]
theorem Ra:Rb.right 2 (DT [] 100000 60 16)=true:=by kernel_rfl
def RZ:Bu:=Ir H9 Jb 7 false false true false 1499 4 1500 (.op 1) [.int .u8 (AA 48),.int .u8 (AA 2),.int .u8 (AA 131),.int .u8 (AA 0)]
theorem RY:RZ.right 2 (DT [] 100000 60 16)=true:=by kernel_rfl
def RX:Bu:=Ir H9 Jb 7 true false true false 1523 6 1524 (.op 1) [.int .u8 (AA 48),.int .u8 (AA 4),.int .u8 (AA 130),.int .u8 (AA 0),.int .u8 (AA 131),.int .u8 (AA 0)]
theorem RW:RX.right 2 (DT [] 100000 60 16)=true:=by kernel_rfl
def RV:Bu:=Ir H9 Jb 7 false true true false 1523 6 1524 (.op 1) [.int .u8 (AA 48),.int .u8 (AA 4),.int .u8 (AA 128),.int .u8 (AA 0),.int .u8 (AA 131),.int .u8 (AA 0)]
theorem RU:RV.right 2 (DT [] 100000 60 16)=true:=by kernel_rfl
def RT:Bu:=Ir H9 Jb 7 true true true false 1547 8 1548 (.op 1) [.int .u8 (AA 48),.int .u8 (AA 6),.int .u8 (AA 130),.int .u8 (AA 0),.int .u8 (AA 128),.int .u8 (AA 0),.int .u8 (AA 131),.int .u8 (AA 0)]
theorem RS:RT.right 2 (DT [] 100000 60 16)=true:=by kernel_rfl
def RR:Bu:=Ir H9 Jb 7 false false false true 1499 4 1500 (.op 1) [.int .u8 (AA 48),.int .u8 (AA 2),.int .u8 (AA 129),.int .u8 (AA 0)]
theorem RQ:RR.right 2 (DT [] 100000 60 16)=true:=by kernel_rfl
def RP:Bu:=Ir H9 Jb 7 true false false true 1523 6 1524 (.op 1) [.int .u8 (AA 48),.int .u8 (AA 4),.int .u8 (AA 130),.int .u8 (AA 0),.int .u8 (AA 129),.int .u8 (AA 0)]
theorem RO:RP.right 2 (DT [] 100000 60 16)=true:=by kernel_rfl
def NG:Bu:=Ir H9 Jb 7 false true false true 1523 6 1524 (.op 1) [.int .u8 (AA 48),.int .u8 (AA 4),.int .u8 (AA 128),.int .u8 (AA 0),.int .u8 (AA 129),.int .u8 (AA 0)]
theorem O6:NG.right 2 (DT [] 100000 60 16)=true:=by kernel_rfl
def NF:Bu:=Ir H9 Jb 7 true true false true 1547 8 1548 (.op 1) [.int .u8 (AA 48),.int .u8 (AA 6),.int .u8 (AA 130),.int .u8 (AA 0),.int .u8 (AA 128),.int .u8 (AA 0),.int .u8 (AA 129),.int .u8 (AA 0)]
theorem O5:NF.right 2 (DT [] 100000 60 16)=true:=by kernel_rfl
def ND:Bu:=Ir H9 Jb 7 false false true true 1523 6 1524 (.op 1) [.int .u8 (AA 48),.int .u8 (AA 4),.int .u8 (AA 131),.int .u8 (AA 0),.int .u8 (AA 129),.int .u8 (AA 0)]
theorem O4:ND.right 2 (DT [] 100000 60 16)=true:=by kernel_rfl
def NC:Bu:=Ir H9 Jb 7 true false true true 1547 8 1548 (.op 1) [.int .u8 (AA 48),.int .u8 (AA 6),.int .u8 (AA 130),.int .u8 (AA 0),.int .u8 (AA 131),.int .u8 (AA 0),.int .u8 (AA 129),.int .u8 (AA 0)]
theorem O3:NC.right 2 (DT [] 100000 60 16)=true:=by kernel_rfl
def NB:Bu:=Ir H9 Jb 7 false true true true 1547 8 1548 (.op 1) [.int .u8 (AA 48),.int .u8 (AA 6),.int .u8 (AA 128),.int .u8 (AA 0),.int .u8 (AA 131),.int .u8 (AA 0),.int .u8 (AA 129),.int .u8 (AA 0)]
theorem O2:NB.right 2 (DT [] 100000 60 16)=true:=by kernel_rfl
def NA:Bu:=Ir H9 Jb 7 true true true true 1571 10 1572 (.op 1) [.int .u8 (AA 48),.int .u8 (AA 8),.int .u8 (AA 130),.int .u8 (AA 0),.int .u8 (AA 128),.int .u8 (AA 0),.int .u8 (AA 131),.int .u8 (AA 0),.int .u8 (AA 129),.int .u8 (AA 0)]
theorem O1:NA.right 2 (DT [] 100000 60 16)=true:=by kernel_rfl
def RN:Bu:=Ir H8 Ja 8 false false false false 1177 2 1178 (.op 1) [.int .u8 (AA 49),.int .u8 (AA 0)]
theorem RM:RN.right 2 (DT [] 100000 60 16)=true:=by kernel_rfl
def RL:Bu:=Ir H8 Ja 8 true false false false 1203 4 1204 (.op 1) [.int .u8 (AA 49),.int .u8 (AA 2),.int .u8 (AA 130),.int .u8 (AA 0)]
theorem RK:RL.right 2 (DT [] 100000 60 16)=true:=by kernel_rfl
def RJ:Bu:=Ir H8 Ja 8 false true false false 1203 4 1204 (.op 1) [.int .u8 (AA 49),.int .u8 (AA 2),.int .u8 (AA 128),.int .u8 (AA 0)]
theorem RI:RJ.right 2 (DT [] 100000 60 16)=true:=by kernel_rfl
def RH:Bu:=Ir H8 Ja 8 true true false false 1275 6 1276 (.op 1) [.int .u8 (AA 49),.int .u8 (AA 4),.int .u8 (AA 128),.int .u8 (AA 0),.int .u8 (AA 130),.int .u8 (AA 0)]
theorem RG:RH.right 2 (DT [] 100000 60 16)=true:=by kernel_rfl
def RF:Bu:=Ir H8 Ja 8 false false true false 1203 4 1204 (.op 1) [.int .u8 (AA 49),.int .u8 (AA 2),.int .u8 (AA 131),.int .u8 (AA 0)]
theorem RE:RF.right 2 (DT [] 100000 60 16)=true:=by kernel_rfl
def RD:Bu:=Ir H8 Ja 8 true false true false 1277 6 1278 (.op 1) [.int .u8 (AA 49),.int .u8 (AA 4),.int .u8 (AA 130),.int .u8 (AA 0),.int .u8 (AA 131),.int .u8 (AA 0)]
theorem RC:RD.right 2 (DT [] 100000 60 16)=true:=by kernel_rfl
def RB:Bu:=Ir H8 Ja 8 false true true false 1277 6 1278 (.op 1) [.int .u8 (AA 49),.int .u8 (AA 4),.int .u8 (AA 128),.int .u8 (AA 0),.int .u8 (AA 131),.int .u8 (AA 0)]
theorem RA:RB.right 2 (DT [] 100000 60 16)=true:=by kernel_rfl
def Q9:Bu:=Ir H8 Ja 8 true true true false 1349 8 1350 (.op 1) [.int .u8 (AA 49),.int .u8 (AA 6),.int .u8 (AA 128),.int .u8 (AA 0),.int .u8 (AA 130),.int .u8 (AA 0),.int .u8 (AA 131),.int .u8 (AA 0)]
theorem Q8:Q9.right 2 (DT [] 100000 60 16)=true:=by kernel_rfl
def Q7:Bu:=Ir H8 Ja 8 false false false true 1203 4 1204 (.op 1) [.int .u8 (AA 49),.int .u8 (AA 2),.int .u8 (AA 129),.int .u8 (AA 0)]
theorem Q6:Q7.right 2 (DT [] 100000 60 16)=true:=by kernel_rfl
def Q5:Bu:=Ir H8 Ja 8 true false false true 1275 6 1276 (.op 1) [.int .u8 (AA 49),.int .u8 (AA 4),.int .u8 (AA 129),.int .u8 (AA 0),.int .u8 (AA 130),.int .u8 (AA 0)]
theorem Q4:Q5.right 2 (DT [] 100000 60 16)=true:=by kernel_rfl
def M9:Bu:=Ir H8 Ja 8 false true false true 1277 6 1278 (.op 1) [.int .u8 (AA 49),.int .u8 (AA 4),.int .u8 (AA 128),.int .u8 (AA 0),.int .u8 (AA 129),.int .u8 (AA 0)]
theorem Oz:M9.right 2 (DT [] 100000 60 16)=true:=by kernel_rfl
def M8:Bu:=Ir H8 Ja 8 true true false true 1397 8 1398 (.op 1) [.int .u8 (AA 49),.int .u8 (AA 6),.int .u8 (AA 128),.int .u8 (AA 0),.int .u8 (AA 129),.int .u8 (AA 0),.int .u8 (AA 130),.int .u8 (AA 0)]
theorem Oy:M8.right 2 (DT [] 100000 60 16)=true:=by kernel_rfl
def M7:Bu:=Ir H8 Ja 8 false false true true 1275 6 1276 (.op 1) [.int .u8 (AA 49),.int .u8 (AA 4),.int .u8 (AA 129),.int .u8 (AA 0),.int .u8 (AA 131),.int .u8 (AA 0)]
theorem Ox:M7.right 2 (DT [] 100000 60 16)=true:=by kernel_rfl
def M6:Bu:=Ir H8 Ja 8 true false true true 1397 8 1398 (.op 1) [.int .u8 (AA 49),.int .u8 (AA 6),.int .u8 (AA 129),.int .u8 (AA 0),.int .u8 (AA 130),.int .u8 (AA 0),.int .u8 (AA 131),.int .u8 (AA 0)]
theorem Ow:M6.right 2 (DT [] 100000 60 16)=true:=by kernel_rfl
def M5:Bu:=Ir H8 Ja 8 false true true true 1399 8 1400 (.op 1) [.int .u8 (AA 49),.int .u8 (AA 6),.int .u8 (AA 128),.int .u8 (AA 0),.int .u8 (AA 129),.int .u8 (AA 0),.int .u8 (AA 131),.int .u8 (AA 0)]
theorem Ov:M5.right 2 (DT [] 100000 60 16)=true:=by kernel_rfl
def M4:Bu:=Ir H8 Ja 8 true true true true 1519 10 1520 (.op 1) [.int .u8 (AA 49),.int .u8 (AA 8),.int .u8 (AA 128),.int .u8 (AA 0),.int .u8 (AA 129),.int .u8 (AA 0),.int .u8 (AA 130),.int .u8 (AA 0),.int .u8 (AA 131),.int .u8 (AA 0)]
theorem Ou:M4.right 2 (DT [] 100000 60 16)=true:=by kernel_rfl
def HW:List Bu:=[Ri,Rf,Rd,Rb,RZ,RX,RV,RT,RR,RP,NG,NF,ND,NC,NB,NA,RN,RL,RJ,RH,RF,RD,RB,Q9,Q7,Q5,M9,M8,M7,M6,M5,M4]
theorem XP:∀e∈HW,e.right 2 (DT [] 100000 60 16)=true:=by
 unfold HW
 simp only[Gx,A2,false_implies,implies_true,and_true]
 exact⟨Rh,Re,Rc,Ra,RY,RW,RU,RS,RQ,RO,O6,O5,O4,O3,O2,O1,RM,RK,RI,RG,RE,RC,RA,Q8,Q6,Q4,Oz,Oy,Ox,Ow,Ov,Ou⟩
theorem XO:(HW.all fun e=>e.shape&&e.still)=true:=by kernel_rfl
def kn:List (Nat × List Bu):=[(10,[wS]),(6,[H9,H8]),(96,[FG,FF,FE,FD,FC,FB,FA,E9]),(97,[E8,E7,E6,E5,E4,E3,E2,E1]),(16,HW)]
def TW (E:EB) (d:Nat):Al:=Nat.rec (fun _ _ _=>none) (fun _ ih f=>match AK f 65 with
 | true=>UQ
 | false=>match BB kn f with
  | some l=>I6 l (BD E 600000 ih f)
  | none=>BD E 600000 ih f) d
theorem ZI:∀p∈kn,∀e∈p.2,e.right 2 (DT [] 100000 60 p.1)=true:=by
 unfold kn
 simp only[Gx,A2,false_implies,implies_true,and_true]
 exact⟨Xg,⟨XS,XR⟩,⟨Rq,Rp,Ro,Rn,Rm,Rl,Rk,Rj⟩,⟨Q3,Q2,Q1,Q0,Qz,Qy,Qx,Qw⟩,XP⟩
theorem yG (E:EB):∀(d:Nat) (f:FuncId),CB Tryz.prog E glob f (TW E d f):=by
 intro d
 induction d with
 | zero=>intro f C _ _ R Z w args xs v Z' h;cases h
 | succ d ih=>
  intro f
  show CB Tryz.prog E glob f (match AK f 65 with
   | true=>UQ
   | false=>match BB kn f with
    | some l=>I6 l (BD E 600000 (TW E d) f)
    | none=>BD E 600000 (TW E d) f)
  split
  ·rename_i h65
   rw[BZ h65]
   exact Xn E
  ·split
   ·rename_i l hl
    rw[Ap]at hl
    exact gy (fT E 600000 (TW E d) ih f) (AB8 [] 100000 60 f) UJ (ZI _ (Ey hl))
   ·exact fT E 600000 (TW E d) ih f
abbrev tw (E:EB) (d:Nat) (F:EB->Al->AE->Nat->List V->H->AG):List V->H->AG:=F E (TW E d) (AZ E (TW E d)) 600000
section
variable (E:EB) (d:Nat)
theorem DE8:TW E (d+1) 8=tw E d F8:=by kernel_rfl
theorem DE9:TW E (d+1) 9=tw E d F9:=by kernel_rfl
theorem ACF:TW E (d+1) 11=tw E d vY:=by kernel_rfl
theorem AGc:TW E (d+1) 14=tw E d fj:=by kernel_rfl
theorem ACA:TW E (d+1) 15=tw E d kK:=by kernel_rfl
theorem kT:TW E (d+1) 16=I6 HW (tw E d pT):=by kernel_rfl
theorem AGb:TW E (d+1) 17=tw E d vN:=by kernel_rfl
theorem AGa:TW E (d+1) 18=tw E d vM:=by kernel_rfl
theorem AB9:TW E (d+1) 19=tw E d vL:=by kernel_rfl
theorem AGZ:TW E (d+1) 20=tw E d wh:=by kernel_rfl
theorem AGY:TW E (d+1) 31=tw E d wg:=by kernel_rfl
theorem AGX:TW E (d+1) 32=tw E d we:=by kernel_rfl
theorem AGW:TW E (d+1) 33=tw E d wa:=by kernel_rfl
theorem AGV:TW E (d+1) 34=tw E d F34:=by kernel_rfl
theorem AGU:TW E (d+1) 36=tw E d F36:=by kernel_rfl
theorem AGT:TW E (d+1) 38=tw E d wZ:=by kernel_rfl
theorem AGS:TW E (d+1) 39=tw E d wY:=by kernel_rfl
theorem AGR:TW E (d+1) 40=tw E d F40:=by kernel_rfl
theorem AGQ:TW E (d+1) 57=tw E d F57:=by kernel_rfl
theorem AGP:TW E (d+1) 58=tw E d wX:=by kernel_rfl
theorem AGO:TW E (d+1) 59=tw E d pS:=by kernel_rfl
theorem AGN:TW E (d+1) 62=tw E d F62:=by kernel_rfl
theorem AGM:TW E (d+1) 63=tw E d wW:=by kernel_rfl
theorem AGL:TW E (d+1) 64=tw E d F64:=by kernel_rfl
theorem AGJ:TW E (d+1) 66=tw E d F66:=by kernel_rfl
theorem AGI:TW E (d+1) 67=tw E d wV:=by kernel_rfl
theorem AGH:TW E (d+1) 93=tw E d F93:=by kernel_rfl
theorem AGG:TW E (d+1) 94=tw E d vK:=by kernel_rfl
theorem AGF:TW E (d+1) 95=tw E d F95:=by kernel_rfl
theorem AGE:TW E (d+1) 99=tw E d F99:=by kernel_rfl
theorem ACG:TW E (d+1) 103=tw E d X6:=by kernel_rfl
theorem ACE:TW E (d+1) 116=tw E d ei:=by kernel_rfl
theorem ACD:TW E (d+1) 117=tw E d eh:=by kernel_rfl
theorem ACC:TW E (d+1) 118=tw E d X5:=by kernel_rfl
theorem ACB:TW E (d+1) 125=tw E d X4:=by kernel_rfl
theorem AGK:TW E (d+1) 65=UQ:=by kernel_rfl
end
theorem AGd (E:EB) (d:Nat):TW E (d+1) 10=I6 [wS] (BD E 600000 (TW E d) 10):=by kernel_rfl
theorem DE6 (E:EB) (d:Nat):TW E (d+1) 6=I6 [H9,H8] (BD E 600000 (TW E d) 6):=by kernel_rfl
theorem Jn (E:EB) (d:Nat):TW E (d+1) 96=I6 [FG,FF,FE,FD,FC,FB,FA,E9] (BD E 600000 (TW E d) 96):=by kernel_rfl
theorem Jl (E:EB) (d:Nat):TW E (d+1) 97=I6 [E8,E7,E6,E5,E4,E3,E2,E1] (BD E 600000 (TW E d) 97):=by kernel_rfl
theorem xV {E:EB} {D:Al} {W:AE} {N:Nat} {f:V} (hN:0<N):Th (vL E D W N) f:=by
 intro Z
 obtain⟨N,rfl⟩:∃q,N=q+1:=⟨N-1,by omega⟩
 rfl
section
variable {E:EB}
theorem ADQ (d:Nat):cI (TW E (d+1) 58):=by rw[AGP];exact w9 (by decide)
theorem xO8 (d:Nat):sD (TW E (d+1) 94):=by rw[AGG];exact ADo (by decide)
theorem ADV (d:Nat):OD (TW E (d+2) 59):=by rw[AGO];exact xH (xO8 d) (by decide)
theorem pz (d:Nat):WC E (TW E (d+1) 17):=by rw[AGb];exact yD
theorem xTs (d:Nat):sC (TW E (d+3) 34):=by rw[AGV];exact ADi (ADQ (d+1)) (ADV d) (pz (d+1))
theorem w8 (d:Nat):Px (TW E (d+1) 36):=by rw[AGU];exact yE
theorem xNo (d:Nat):sE (TW E (d+1) 116):=by rw[ACE];exact ADq
theorem ADb (d:Nat):cL (TW E (d+1) 117):=by rw[ACD];exact xY
theorem wm (d:Nat):V9 (TW E (d+2) 93):=by rw[AGH];exact xA (xNo d) (ADb d)
theorem kZ (d:Nat):Rz (TW E (d+3) 57):=by rw[AGQ];exact p7 (wm d)
theorem wy (d:Nat):Lc (TW E (d+4) 33):=by rw[AGW];exact ZM (kZ d) (by decide)
theorem ADT (d:Nat):R7 600000 (TW E (d+4) 38):=by rw[AGT];exact gH (kZ d)
theorem xCx (d:Nat):sG (TW E (d+1) 118):=by rw[ACC];exact ADw (by decide)
theorem xCt (d:Nat):sH (TW E (d+2) 95):=by rw[AGF];exact ADx (xCx d)
theorem xLv (d:Nat):X0 E (TW E (d+5) 15):=by rw[ACA];exact qZ (wy d) (xTs (d+1)) (w8 (d+3))
theorem pZ (d:Nat):R8 (TW E (d+1) 99):=by rw[AGE];exact gf
theorem xHn (d:Nat):jE (TW E (d+1) 18):=by rw[AGa];exact ADr
theorem xH3 (d:Nat):Th (TW E (d+1) 19) (.fn 11 [] []):=by rw[AB9];exact xV (by decide)
theorem xH4 (d:Nat):Th (TW E (d+1) 20) (.fn 21 [] []):=by rw[AGZ];exact ADs (by decide)
theorem wq (d:Nat):Ps (TW E (d+2) 11):=by rw[ACF];exact xD (xHn d) (xH3 d) (xH4 d)
theorem ADU (d:Nat):cJ (TW E (d+3) 19):=by rw[AB9];exact xG (wq d) (by decide)
theorem ADS (d:Nat):Tg (TW E (d+4) 11):=by rw[ACF];exact xC (xHn (d+2)) (ADU d) (xH4 (d+2))
theorem ADY (d:Nat):WA (TW E (d+1) 31):=by rw[AGY];exact qK (by decide)
theorem ADW (d:Nat):jF (TW E (d+1) 32):=by rw[AGX];exact qJ (by decide)
theorem ADX (d:Nat):sF (TW E (d+2) 14):=by rw[AGc];exact gR (ADY d) (ADW d)
theorem ADZ (d:Nat):Pv E (TW E (d+3) 8):=by rw[DE8];exact gV (ADX d)
theorem pY (d:Nat):R6 (TW E (d+2) 96) (TW E (d+2) 97) (TW E (d+3) 62):=by rw[AGN];exact gC (wm d) (xCt d)
theorem ADf (d:Nat):WB (TW E (d+2) 96) (TW E (d+2) 97) (TW E (d+4) 64):=fun hPt h4 ht hp hP hu hx hB ac aq hj=>by rw[AGL];exact yB (pY d) hPt h4 ht hp hP hu hx hB ac aq hj
theorem ADc (d:Nat):Ti 600000 (TW E (d+4) 64) (TW E (d+5) 63):=by rw[AGM];exact xi
theorem wx (d:Nat):OE (TW E (d+1) 66) (TW E (d+1) 65):=by rw[AGJ,AGK];exact qQ
theorem ADa (d:Nat):cK (TW E (d+2) 96) (TW E (d+2) 97) 600000 (TW E (d+6) 39):=by rw[AGS];exact xT (xLv d) (ADf d) (ADc d) (wx (d+4)) (w8 (d+4)) (by decide)
theorem wu (d:Nat):sB (TW E (d+2) 96) (TW E (d+2) 97) 600000 (TW E (d+7) 15):=by rw[ACA];exact xK (wy (d+2)) (ADT (d+2)) (AQ _) (ADa d)
theorem wv (d:Nat):Ug (TW E (d+1) 125):=by rw[ACB];exact qL
theorem ADe (d:Nat):Pu (TW E (d+2) 103):=by rw[ACG];exact xr (pZ d) (wv d)
theorem ADd (d:Nat):Pu (TW E (d+3) 67):=by rw[AGI];exact xm (ADe d)
theorem wz (d:Nat):cM (TW E (d+4) 40):=by rw[AGR];exact xn (ADd d)
end
theorem ADu {e:Bu} {F:List V->H->AG} {args:List V} {Z:H} {ρ:Nat->Nat} (hm:e.Fits ρ args Z):∃ρ',e.Fits ρ' args Z/\I6 [e] F args Z=some (e.ans ρ' Z):=by
 obtain⟨e',ρ',he,hf,hr⟩:=CX (F:=F) (l:=[e]) (Oe.2 rfl) hm
 have:=Oe.1 he
 subst this
 exact⟨ρ',hf,hr⟩
def Jj:List V->Nat
 | [_,.int _ (.ofNat k)]=>k
 | _=>0
theorem YB.nil {ρ:Nat->Nat} {Z:H}:YB [] ρ Z:=fun id b h=>by cases h
theorem pG.nil {ρ:Nat->Nat}:pG [] ρ:=fun id id' h=>by cases h
def Pt (T:Bu) (τ:Nat->Nat) (Z:H):Prop:=pG T.bl1 τ/\YB T.bl1 τ Z
section
variable {E:EB} {τ:Nat->Nat} {T:Bu}
theorem gb (Z Z':H) (ht:BG Z) (f:Fr AN Z Z') (h:Pt T τ Z):Pt T τ Z':=⟨h.1,h.2.fr f ht fun _ _ h=>h⟩
theorem Qj {Z:H} {q:Nat} {cp:T3} {l:List V} (h:YB T.bl1 τ Z) (hq:Go.Og.look T.bl1 q=some (.cells l)) (hl:Jp τ l=l) (h2:l.length=2):IH Z 2 1 (.sl (τ q) 0 1 cp) l:=
 .inr ⟨τ q,0,cp,Jp τ l,rfl,h q _ hq,by rw[hl,h2];decide,by rw[hl,Cl];exact(DB (by rw[h2];decide)).symm⟩
def fx (τ:Nat->Nat):Nat->Ty
 | 0=>⟨AA 7,(.sl (τ 724) 0 1 (.ex 1)),false,false,false,false,AA 0,AA 0,.nils,(.sl (τ 939) 0 4 (.op 11)),AA 4,false,AA 0,rfl,rfl,rfl⟩
 | 1=>⟨AA 4,(.sl (τ 820) 0 1 (.ex 1)),false,false,false,false,AA 0,AA 0,.nils,.nils,AA 0,false,AA 0,rfl,rfl,rfl⟩
 | 2=>⟨AA 4,(.sl (τ 850) 0 1 (.ex 1)),false,false,false,false,AA 0,AA 0,.nils,.nils,AA 0,false,AA 0,rfl,rfl,rfl⟩
 | 3=>⟨AA 4,(.sl (τ 889) 0 1 (.ex 1)),false,false,false,false,AA 0,AA 0,.nils,.nils,AA 0,false,AA 0,rfl,rfl,rfl⟩
 | _=>⟨AA 4,(.sl (τ 937) 0 1 (.ex 1)),false,false,false,false,AA 0,AA 0,.nils,.nils,AA 0,false,AA 0,rfl,rfl,rfl⟩
def xq (τ:Nat->Nat):Nat->Fd
 | 0=>⟨⟨1,99⟩,AA 1,true,false,AA 0,AA 0,.nils,.nils,AA 0,.nils,AA 0,rfl,rfl,rfl⟩
 | 1=>⟨⟨1,97⟩,AA 2,true,false,AA 0,AA 0,.nils,.nils,AA 0,.nils,AA 0,rfl,rfl,rfl⟩
 | 2=>⟨⟨1,100⟩,AA 3,true,false,AA 0,AA 0,.nils,.nils,AA 0,.nils,AA 0,rfl,rfl,rfl⟩
 | _=>⟨⟨1,98⟩,AA 4,true,false,AA 0,AA 0,.nils,.nils,AA 0,.nils,AA 0,rfl,rfl,rfl⟩
theorem ga {Z:H} (h:Pt H9 τ Z):Jw Z 13 5 (.sl (τ 936) 0 5 (.op 13)) fun i=>(fx τ i).c:=
 ⟨.inr ⟨τ 936,_,_,rfl,h.2 936 _ rfl,fun k hk=>by
  have:k=0\/k=1\/k=2\/k=3\/k=4:=by omega
  rcases this with rfl|rfl|rfl|rfl|rfl<;>exact⟨Ao rfl,rfl⟩⟩⟩
theorem Yu {Z:H} (h:Pt H9 τ Z):Jw Z 11 4 (fx τ 0).fields fun k=>(xq τ k).c:=
 ⟨.inr ⟨τ 939,_,_,rfl,h.2 939 _ rfl,fun k hk=>by
  have:k=0\/k=1\/k=2\/k=3:=by omega
  rcases this with rfl|rfl|rfl|rfl<;>exact⟨Ao rfl,rfl⟩⟩⟩
theorem qO {Z:H} (h:Pt H9 τ Z) (k:Nat) (hk:k<4):IH Z 2 1 (fx τ (k+1)).tags (ka (wN k)):=by
 have:k=0\/k=1\/k=2\/k=3:=by omega
 rcases this with rfl|rfl|rfl|rfl<;>exact Qj h.2 rfl rfl rfl
theorem py (a b:Nat):Bw (TW E (a+1) 96) (TW E (b+1) 97) (Pt H9 τ) [.str ⟨1,77⟩,(.sl (τ 706) 0 1 (.op 1)),(.sl (τ 1383) 0 1 (.op 1)),(.sl (τ 936) 0 5 (.op 13))] 1 2:=by
 refine⟨fun Z ht hP=>?_,fun Z ht hP=>?_⟩
 ·obtain⟨e,ρ,he,hf,hr⟩:=CX (e:=FG) (l:=[FG,FF,FE,FD,FC,FB,FA,E9]) (F:=BD E 600000 (TW E a) 96) (by simp) (C8 (e:=FG) (ρ:=τ) (args:=[.agg [.str ⟨1,77⟩,(.sl (τ 706) 0 1 (.op 1)),(.sl (τ 1383) 0 1 (.op 1)),(.sl (τ 936) 0 5 (.op 13))],.int .i64 (AA 1)]) rfl hP.2 hP.1)
  simp only[AS,A2,or_false]at he
  have ha:=congrArg Jj hf.args
  rcases he with rfl|rfl|rfl|rfl|rfl|rfl|rfl|rfl
  ·refine⟨_,_,by rw[Jn,hr],?_,Bu.fr0 Gs (by kernel_rfl) hf ht⟩
   exact .inr ⟨_,0,_,_,rfl,Bu.has Gs hf ht 1410 _ rfl,Ao rfl,rfl⟩
  ·exact AD (show false=true from(congrArg (AK 2) ha).trans rfl)
  ·exact AD (show false=true from(congrArg (AK 3) ha).trans rfl)
  ·exact AD (show false=true from(congrArg (AK 4) ha).trans rfl)
  ·refine⟨_,_,by rw[Jn,hr],?_,Bu.fr0 Gn (by kernel_rfl) hf ht⟩
   exact .inr ⟨_,0,_,_,rfl,Bu.has Gn hf ht 1114 _ rfl,Ao rfl,rfl⟩
  ·exact AD (show false=true from(congrArg (AK 2) ha).trans rfl)
  ·exact AD (show false=true from(congrArg (AK 3) ha).trans rfl)
  ·exact AD (show false=true from(congrArg (AK 4) ha).trans rfl)
 ·obtain⟨e,ρ,he,hf,hr⟩:=CX (e:=E8) (l:=[E8,E7,E6,E5,E4,E3,E2,E1]) (F:=BD E 600000 (TW E b) 97) (by simp) (C8 (e:=E8) (ρ:=τ) (args:=[.agg [.str ⟨1,77⟩,(.sl (τ 706) 0 1 (.op 1)),(.sl (τ 1383) 0 1 (.op 1)),(.sl (τ 936) 0 5 (.op 13))],.int .i64 (AA 1)]) rfl hP.2 hP.1)
  simp only[AS,A2,or_false]at he
  have ha:=congrArg Jj hf.args
  rcases he with rfl|rfl|rfl|rfl|rfl|rfl|rfl|rfl
  ·exact⟨_,by rw[Jl,hr];rfl,Bu.fr0 LR (by kernel_rfl) hf ht⟩
  ·exact AD (show false=true from(congrArg (AK 2) ha).trans rfl)
  ·exact AD (show false=true from(congrArg (AK 3) ha).trans rfl)
  ·exact AD (show false=true from(congrArg (AK 4) ha).trans rfl)
  ·exact⟨_,by rw[Jl,hr];rfl,Bu.fr0 LN (by kernel_rfl) hf ht⟩
  ·exact AD (show false=true from(congrArg (AK 2) ha).trans rfl)
  ·exact AD (show false=true from(congrArg (AK 3) ha).trans rfl)
  ·exact AD (show false=true from(congrArg (AK 4) ha).trans rfl)
theorem px (a b:Nat):Bw (TW E (a+1) 96) (TW E (b+1) 97) (Pt H9 τ) [.str ⟨1,77⟩,(.sl (τ 706) 0 1 (.op 1)),(.sl (τ 1383) 0 1 (.op 1)),(.sl (τ 936) 0 5 (.op 13))] 2 0:=by
 refine⟨fun Z ht hP=>?_,fun Z ht hP=>?_⟩
 ·obtain⟨e,ρ,he,hf,hr⟩:=CX (e:=FF) (l:=[FG,FF,FE,FD,FC,FB,FA,E9]) (F:=BD E 600000 (TW E a) 96) (by simp) (C8 (e:=FF) (ρ:=τ) (args:=[.agg [.str ⟨1,77⟩,(.sl (τ 706) 0 1 (.op 1)),(.sl (τ 1383) 0 1 (.op 1)),(.sl (τ 936) 0 5 (.op 13))],.int .i64 (AA 2)]) rfl hP.2 hP.1)
  simp only[AS,A2,or_false]at he
  have ha:=congrArg Jj hf.args
  rcases he with rfl|rfl|rfl|rfl|rfl|rfl|rfl|rfl
  ·exact AD (show false=true from(congrArg (AK 1) ha).trans rfl)
  ·refine⟨_,_,by rw[Jn,hr],?_,Bu.fr0 Gr (by kernel_rfl) hf ht⟩
   exact .inr ⟨_,0,_,_,rfl,Bu.has Gr hf ht 1410 _ rfl,Ao rfl,rfl⟩
  ·exact AD (show false=true from(congrArg (AK 3) ha).trans rfl)
  ·exact AD (show false=true from(congrArg (AK 4) ha).trans rfl)
  ·exact AD (show false=true from(congrArg (AK 1) ha).trans rfl)
  ·refine⟨_,_,by rw[Jn,hr],?_,Bu.fr0 Gm (by kernel_rfl) hf ht⟩
   exact .inr ⟨_,0,_,_,rfl,Bu.has Gm hf ht 1114 _ rfl,Ao rfl,rfl⟩
  ·exact AD (show false=true from(congrArg (AK 3) ha).trans rfl)
  ·exact AD (show false=true from(congrArg (AK 4) ha).trans rfl)
 ·obtain⟨e,ρ,he,hf,hr⟩:=CX (e:=E7) (l:=[E8,E7,E6,E5,E4,E3,E2,E1]) (F:=BD E 600000 (TW E b) 97) (by simp) (C8 (e:=E7) (ρ:=τ) (args:=[.agg [.str ⟨1,77⟩,(.sl (τ 706) 0 1 (.op 1)),(.sl (τ 1383) 0 1 (.op 1)),(.sl (τ 936) 0 5 (.op 13))],.int .i64 (AA 2)]) rfl hP.2 hP.1)
  simp only[AS,A2,or_false]at he
  have ha:=congrArg Jj hf.args
  rcases he with rfl|rfl|rfl|rfl|rfl|rfl|rfl|rfl
  ·exact AD (show false=true from(congrArg (AK 1) ha).trans rfl)
  ·exact⟨_,by rw[Jl,hr];rfl,Bu.fr0 LQ (by kernel_rfl) hf ht⟩
  ·exact AD (show false=true from(congrArg (AK 3) ha).trans rfl)
  ·exact AD (show false=true from(congrArg (AK 4) ha).trans rfl)
  ·exact AD (show false=true from(congrArg (AK 1) ha).trans rfl)
  ·exact⟨_,by rw[Jl,hr];rfl,Bu.fr0 LM (by kernel_rfl) hf ht⟩
  ·exact AD (show false=true from(congrArg (AK 3) ha).trans rfl)
  ·exact AD (show false=true from(congrArg (AK 4) ha).trans rfl)
theorem pv (a b:Nat):Bw (TW E (a+1) 96) (TW E (b+1) 97) (Pt H9 τ) [.str ⟨1,77⟩,(.sl (τ 706) 0 1 (.op 1)),(.sl (τ 1383) 0 1 (.op 1)),(.sl (τ 936) 0 5 (.op 13))] 3 3:=by
 refine⟨fun Z ht hP=>?_,fun Z ht hP=>?_⟩
 ·obtain⟨e,ρ,he,hf,hr⟩:=CX (e:=FE) (l:=[FG,FF,FE,FD,FC,FB,FA,E9]) (F:=BD E 600000 (TW E a) 96) (by simp) (C8 (e:=FE) (ρ:=τ) (args:=[.agg [.str ⟨1,77⟩,(.sl (τ 706) 0 1 (.op 1)),(.sl (τ 1383) 0 1 (.op 1)),(.sl (τ 936) 0 5 (.op 13))],.int .i64 (AA 3)]) rfl hP.2 hP.1)
  simp only[AS,A2,or_false]at he
  have ha:=congrArg Jj hf.args
  rcases he with rfl|rfl|rfl|rfl|rfl|rfl|rfl|rfl
  ·exact AD (show false=true from(congrArg (AK 1) ha).trans rfl)
  ·exact AD (show false=true from(congrArg (AK 2) ha).trans rfl)
  ·refine⟨_,_,by rw[Jn,hr],?_,Bu.fr0 Gq (by kernel_rfl) hf ht⟩
   exact .inr ⟨_,0,_,_,rfl,Bu.has Gq hf ht 1410 _ rfl,Ao rfl,rfl⟩
  ·exact AD (show false=true from(congrArg (AK 4) ha).trans rfl)
  ·exact AD (show false=true from(congrArg (AK 1) ha).trans rfl)
  ·exact AD (show false=true from(congrArg (AK 2) ha).trans rfl)
  ·refine⟨_,_,by rw[Jn,hr],?_,Bu.fr0 Gl (by kernel_rfl) hf ht⟩
   exact .inr ⟨_,0,_,_,rfl,Bu.has Gl hf ht 1114 _ rfl,Ao rfl,rfl⟩
  ·exact AD (show false=true from(congrArg (AK 4) ha).trans rfl)
 ·obtain⟨e,ρ,he,hf,hr⟩:=CX (e:=E6) (l:=[E8,E7,E6,E5,E4,E3,E2,E1]) (F:=BD E 600000 (TW E b) 97) (by simp) (C8 (e:=E6) (ρ:=τ) (args:=[.agg [.str ⟨1,77⟩,(.sl (τ 706) 0 1 (.op 1)),(.sl (τ 1383) 0 1 (.op 1)),(.sl (τ 936) 0 5 (.op 13))],.int .i64 (AA 3)]) rfl hP.2 hP.1)
  simp only[AS,A2,or_false]at he
  have ha:=congrArg Jj hf.args
  rcases he with rfl|rfl|rfl|rfl|rfl|rfl|rfl|rfl
  ·exact AD (show false=true from(congrArg (AK 1) ha).trans rfl)
  ·exact AD (show false=true from(congrArg (AK 2) ha).trans rfl)
  ·exact⟨_,by rw[Jl,hr];rfl,Bu.fr0 LP (by kernel_rfl) hf ht⟩
  ·exact AD (show false=true from(congrArg (AK 4) ha).trans rfl)
  ·exact AD (show false=true from(congrArg (AK 1) ha).trans rfl)
  ·exact AD (show false=true from(congrArg (AK 2) ha).trans rfl)
  ·exact⟨_,by rw[Jl,hr];rfl,Bu.fr0 LL (by kernel_rfl) hf ht⟩
  ·exact AD (show false=true from(congrArg (AK 4) ha).trans rfl)
theorem pq (a b:Nat):Bw (TW E (a+1) 96) (TW E (b+1) 97) (Pt H9 τ) [.str ⟨1,77⟩,(.sl (τ 706) 0 1 (.op 1)),(.sl (τ 1383) 0 1 (.op 1)),(.sl (τ 936) 0 5 (.op 13))] 4 1:=by
 refine⟨fun Z ht hP=>?_,fun Z ht hP=>?_⟩
 ·obtain⟨e,ρ,he,hf,hr⟩:=CX (e:=FD) (l:=[FG,FF,FE,FD,FC,FB,FA,E9]) (F:=BD E 600000 (TW E a) 96) (by simp) (C8 (e:=FD) (ρ:=τ) (args:=[.agg [.str ⟨1,77⟩,(.sl (τ 706) 0 1 (.op 1)),(.sl (τ 1383) 0 1 (.op 1)),(.sl (τ 936) 0 5 (.op 13))],.int .i64 (AA 4)]) rfl hP.2 hP.1)
  simp only[AS,A2,or_false]at he
  have ha:=congrArg Jj hf.args
  rcases he with rfl|rfl|rfl|rfl|rfl|rfl|rfl|rfl
  ·exact AD (show false=true from(congrArg (AK 1) ha).trans rfl)
  ·exact AD (show false=true from(congrArg (AK 2) ha).trans rfl)
  ·exact AD (show false=true from(congrArg (AK 3) ha).trans rfl)
  ·refine⟨_,_,by rw[Jn,hr],?_,Bu.fr0 Gp (by kernel_rfl) hf ht⟩
   exact .inr ⟨_,0,_,_,rfl,Bu.has Gp hf ht 1410 _ rfl,Ao rfl,rfl⟩
  ·exact AD (show false=true from(congrArg (AK 1) ha).trans rfl)
  ·exact AD (show false=true from(congrArg (AK 2) ha).trans rfl)
  ·exact AD (show false=true from(congrArg (AK 3) ha).trans rfl)
  ·refine⟨_,_,by rw[Jn,hr],?_,Bu.fr0 Gk (by kernel_rfl) hf ht⟩
   exact .inr ⟨_,0,_,_,rfl,Bu.has Gk hf ht 1114 _ rfl,Ao rfl,rfl⟩
 ·obtain⟨e,ρ,he,hf,hr⟩:=CX (e:=E5) (l:=[E8,E7,E6,E5,E4,E3,E2,E1]) (F:=BD E 600000 (TW E b) 97) (by simp) (C8 (e:=E5) (ρ:=τ) (args:=[.agg [.str ⟨1,77⟩,(.sl (τ 706) 0 1 (.op 1)),(.sl (τ 1383) 0 1 (.op 1)),(.sl (τ 936) 0 5 (.op 13))],.int .i64 (AA 4)]) rfl hP.2 hP.1)
  simp only[AS,A2,or_false]at he
  have ha:=congrArg Jj hf.args
  rcases he with rfl|rfl|rfl|rfl|rfl|rfl|rfl|rfl
  ·exact AD (show false=true from(congrArg (AK 1) ha).trans rfl)
  ·exact AD (show false=true from(congrArg (AK 2) ha).trans rfl)
  ·exact AD (show false=true from(congrArg (AK 3) ha).trans rfl)
  ·exact⟨_,by rw[Jl,hr];rfl,Bu.fr0 LO (by kernel_rfl) hf ht⟩
  ·exact AD (show false=true from(congrArg (AK 1) ha).trans rfl)
  ·exact AD (show false=true from(congrArg (AK 2) ha).trans rfl)
  ·exact AD (show false=true from(congrArg (AK 3) ha).trans rfl)
  ·exact⟨_,by rw[Jl,hr];rfl,Bu.fr0 LK (by kernel_rfl) hf ht⟩
theorem YE (a b:Nat):mF (TW E (a+1) 96) (TW E (b+1) 97) (Pt H9 τ) false ⟨1,77⟩ (.sl (τ 706) 0 1 (.op 1)) (.sl (τ 1383) 0 1 (.op 1)) (.sl (τ 936) 0 5 (.op 13)) (fx τ) (xq τ) where
 t4:=⟨⟨_,_,_,_,rfl,rfl,rfl,rfl,Cv _ rfl,Cv _ rfl,Cv _ rfl⟩⟩
 ptf:=gb
 row:=fun Z h=>ga h
 frow:=fun Z h=>Yu h
 tg0:=fun Z h=>Qj h.2 rfl rfl rfl
 tg:=fun Z k h hk=>qO h k hk
 k0:=rfl
 itm:=rfl
 mor:=rfl
 kd:=fun k hk=>by
  have:k=0\/k=1\/k=2\/k=3:=by omega
  rcases this with rfl|rfl|rfl|rfl<;>rfl
 fty:=fun k hk=>by
  have:k=0\/k=1\/k=2\/k=3:=by omega
  rcases this with rfl|rfl|rfl|rfl<;>rfl
 bw:=fun k hk=>by
  have:k=0\/k=1\/k=2\/k=3:=by omega
  rcases this with rfl|rfl|rfl|rfl
  ·exact py a b
  ·exact px a b
  ·exact pv a b
  ·exact pq a b
def fu (τ:Nat->Nat):Nat->Ty
 | 0=>⟨AA 8,(.sl (τ 690) 0 1 (.ex 1)),false,false,false,false,AA 0,AA 0,.nils,(.sl (τ 905) 0 4 (.op 11)),AA 4,false,AA 0,rfl,rfl,rfl⟩
 | 1=>⟨AA 4,(.sl (τ 786) 0 1 (.ex 1)),false,false,false,false,AA 0,AA 0,.nils,.nils,AA 0,false,AA 0,rfl,rfl,rfl⟩
 | 2=>⟨AA 4,(.sl (τ 816) 0 1 (.ex 1)),false,false,false,false,AA 0,AA 0,.nils,.nils,AA 0,false,AA 0,rfl,rfl,rfl⟩
 | 3=>⟨AA 4,(.sl (τ 855) 0 1 (.ex 1)),false,false,false,false,AA 0,AA 0,.nils,.nils,AA 0,false,AA 0,rfl,rfl,rfl⟩
 | _=>⟨AA 4,(.sl (τ 903) 0 1 (.ex 1)),false,false,false,false,AA 0,AA 0,.nils,.nils,AA 0,false,AA 0,rfl,rfl,rfl⟩
def xp (τ:Nat->Nat):Nat->Fd
 | 0=>⟨⟨1,99⟩,AA 1,true,false,AA 0,AA 0,.nils,.nils,AA 0,.nils,AA 0,rfl,rfl,rfl⟩
 | 1=>⟨⟨1,97⟩,AA 2,true,false,AA 0,AA 0,.nils,.nils,AA 0,.nils,AA 0,rfl,rfl,rfl⟩
 | 2=>⟨⟨1,100⟩,AA 3,true,false,AA 0,AA 0,.nils,.nils,AA 0,.nils,AA 0,rfl,rfl,rfl⟩
 | _=>⟨⟨1,98⟩,AA 4,true,false,AA 0,AA 0,.nils,.nils,AA 0,.nils,AA 0,rfl,rfl,rfl⟩
theorem gZ {Z:H} (h:Pt H8 τ Z):Jw Z 13 5 (.sl (τ 902) 0 5 (.op 13)) fun i=>(fu τ i).c:=
 ⟨.inr ⟨τ 902,_,_,rfl,h.2 902 _ rfl,fun k hk=>by
  have:k=0\/k=1\/k=2\/k=3\/k=4:=by omega
  rcases this with rfl|rfl|rfl|rfl|rfl<;>exact⟨Ao rfl,rfl⟩⟩⟩
theorem Yt {Z:H} (h:Pt H8 τ Z):Jw Z 11 4 (fu τ 0).fields fun k=>(xp τ k).c:=
 ⟨.inr ⟨τ 905,_,_,rfl,h.2 905 _ rfl,fun k hk=>by
  have:k=0\/k=1\/k=2\/k=3:=by omega
  rcases this with rfl|rfl|rfl|rfl<;>exact⟨Ao rfl,rfl⟩⟩⟩
theorem qN {Z:H} (h:Pt H8 τ Z) (k:Nat) (hk:k<4):IH Z 2 1 (fu τ (k+1)).tags (ka (wN k)):=by
 have:k=0\/k=1\/k=2\/k=3:=by omega
 rcases this with rfl|rfl|rfl|rfl<;>exact Qj h.2 rfl rfl rfl
theorem po (a b:Nat):Bw (TW E (a+1) 96) (TW E (b+1) 97) (Pt H8 τ) [.str ⟨1,77⟩,(.sl (τ 672) 0 1 (.op 1)),(.sl (τ 1087) 0 1 (.op 1)),(.sl (τ 902) 0 5 (.op 13))] 1 2:=by
 refine⟨fun Z ht hP=>?_,fun Z ht hP=>?_⟩
 ·obtain⟨e,ρ,he,hf,hr⟩:=CX (e:=FC) (l:=[FG,FF,FE,FD,FC,FB,FA,E9]) (F:=BD E 600000 (TW E a) 96) (by simp) (C8 (e:=FC) (ρ:=τ) (args:=[.agg [.str ⟨1,77⟩,(.sl (τ 672) 0 1 (.op 1)),(.sl (τ 1087) 0 1 (.op 1)),(.sl (τ 902) 0 5 (.op 13))],.int .i64 (AA 1)]) rfl hP.2 hP.1)
  simp only[AS,A2,or_false]at he
  have ha:=congrArg Jj hf.args
  rcases he with rfl|rfl|rfl|rfl|rfl|rfl|rfl|rfl
  ·refine⟨_,_,by rw[Jn,hr],?_,Bu.fr0 Gs (by kernel_rfl) hf ht⟩
   exact .inr ⟨_,0,_,_,rfl,Bu.has Gs hf ht 1410 _ rfl,Ao rfl,rfl⟩
  ·exact AD (show false=true from(congrArg (AK 2) ha).trans rfl)
  ·exact AD (show false=true from(congrArg (AK 3) ha).trans rfl)
  ·exact AD (show false=true from(congrArg (AK 4) ha).trans rfl)
  ·refine⟨_,_,by rw[Jn,hr],?_,Bu.fr0 Gn (by kernel_rfl) hf ht⟩
   exact .inr ⟨_,0,_,_,rfl,Bu.has Gn hf ht 1114 _ rfl,Ao rfl,rfl⟩
  ·exact AD (show false=true from(congrArg (AK 2) ha).trans rfl)
  ·exact AD (show false=true from(congrArg (AK 3) ha).trans rfl)
  ·exact AD (show false=true from(congrArg (AK 4) ha).trans rfl)
 ·obtain⟨e,ρ,he,hf,hr⟩:=CX (e:=E4) (l:=[E8,E7,E6,E5,E4,E3,E2,E1]) (F:=BD E 600000 (TW E b) 97) (by simp) (C8 (e:=E4) (ρ:=τ) (args:=[.agg [.str ⟨1,77⟩,(.sl (τ 672) 0 1 (.op 1)),(.sl (τ 1087) 0 1 (.op 1)),(.sl (τ 902) 0 5 (.op 13))],.int .i64 (AA 1)]) rfl hP.2 hP.1)
  simp only[AS,A2,or_false]at he
  have ha:=congrArg Jj hf.args
  rcases he with rfl|rfl|rfl|rfl|rfl|rfl|rfl|rfl
  ·exact⟨_,by rw[Jl,hr];rfl,Bu.fr0 LR (by kernel_rfl) hf ht⟩
  ·exact AD (show false=true from(congrArg (AK 2) ha).trans rfl)
  ·exact AD (show false=true from(congrArg (AK 3) ha).trans rfl)
  ·exact AD (show false=true from(congrArg (AK 4) ha).trans rfl)
  ·exact⟨_,by rw[Jl,hr];rfl,Bu.fr0 LN (by kernel_rfl) hf ht⟩
  ·exact AD (show false=true from(congrArg (AK 2) ha).trans rfl)
  ·exact AD (show false=true from(congrArg (AK 3) ha).trans rfl)
  ·exact AD (show false=true from(congrArg (AK 4) ha).trans rfl)
theorem pn (a b:Nat):Bw (TW E (a+1) 96) (TW E (b+1) 97) (Pt H8 τ) [.str ⟨1,77⟩,(.sl (τ 672) 0 1 (.op 1)),(.sl (τ 1087) 0 1 (.op 1)),(.sl (τ 902) 0 5 (.op 13))] 2 0:=by
 refine⟨fun Z ht hP=>?_,fun Z ht hP=>?_⟩
 ·obtain⟨e,ρ,he,hf,hr⟩:=CX (e:=FB) (l:=[FG,FF,FE,FD,FC,FB,FA,E9]) (F:=BD E 600000 (TW E a) 96) (by simp) (C8 (e:=FB) (ρ:=τ) (args:=[.agg [.str ⟨1,77⟩,(.sl (τ 672) 0 1 (.op 1)),(.sl (τ 1087) 0 1 (.op 1)),(.sl (τ 902) 0 5 (.op 13))],.int .i64 (AA 2)]) rfl hP.2 hP.1)
  simp only[AS,A2,or_false]at he
  have ha:=congrArg Jj hf.args
  rcases he with rfl|rfl|rfl|rfl|rfl|rfl|rfl|rfl
  ·exact AD (show false=true from(congrArg (AK 1) ha).trans rfl)
  ·refine⟨_,_,by rw[Jn,hr],?_,Bu.fr0 Gr (by kernel_rfl) hf ht⟩
   exact .inr ⟨_,0,_,_,rfl,Bu.has Gr hf ht 1410 _ rfl,Ao rfl,rfl⟩
  ·exact AD (show false=true from(congrArg (AK 3) ha).trans rfl)
  ·exact AD (show false=true from(congrArg (AK 4) ha).trans rfl)
  ·exact AD (show false=true from(congrArg (AK 1) ha).trans rfl)
  ·refine⟨_,_,by rw[Jn,hr],?_,Bu.fr0 Gm (by kernel_rfl) hf ht⟩
   exact .inr ⟨_,0,_,_,rfl,Bu.has Gm hf ht 1114 _ rfl,Ao rfl,rfl⟩
  ·exact AD (show false=true from(congrArg (AK 3) ha).trans rfl)
  ·exact AD (show false=true from(congrArg (AK 4) ha).trans rfl)
 ·obtain⟨e,ρ,he,hf,hr⟩:=CX (e:=E3) (l:=[E8,E7,E6,E5,E4,E3,E2,E1]) (F:=BD E 600000 (TW E b) 97) (by simp) (C8 (e:=E3) (ρ:=τ) (args:=[.agg [.str ⟨1,77⟩,(.sl (τ 672) 0 1 (.op 1)),(.sl (τ 1087) 0 1 (.op 1)),(.sl (τ 902) 0 5 (.op 13))],.int .i64 (AA 2)]) rfl hP.2 hP.1)
  simp only[AS,A2,or_false]at he
  have ha:=congrArg Jj hf.args
  rcases he with rfl|rfl|rfl|rfl|rfl|rfl|rfl|rfl
  ·exact AD (show false=true from(congrArg (AK 1) ha).trans rfl)
  ·exact⟨_,by rw[Jl,hr];rfl,Bu.fr0 LQ (by kernel_rfl) hf ht⟩
  ·exact AD (show false=true from(congrArg (AK 3) ha).trans rfl)
  ·exact AD (show false=true from(congrArg (AK 4) ha).trans rfl)
  ·exact AD (show false=true from(congrArg (AK 1) ha).trans rfl)
  ·exact⟨_,by rw[Jl,hr];rfl,Bu.fr0 LM (by kernel_rfl) hf ht⟩
  ·exact AD (show false=true from(congrArg (AK 3) ha).trans rfl)
  ·exact AD (show false=true from(congrArg (AK 4) ha).trans rfl)
theorem ph (a b:Nat):Bw (TW E (a+1) 96) (TW E (b+1) 97) (Pt H8 τ) [.str ⟨1,77⟩,(.sl (τ 672) 0 1 (.op 1)),(.sl (τ 1087) 0 1 (.op 1)),(.sl (τ 902) 0 5 (.op 13))] 3 3:=by
 refine⟨fun Z ht hP=>?_,fun Z ht hP=>?_⟩
 ·obtain⟨e,ρ,he,hf,hr⟩:=CX (e:=FA) (l:=[FG,FF,FE,FD,FC,FB,FA,E9]) (F:=BD E 600000 (TW E a) 96) (by simp) (C8 (e:=FA) (ρ:=τ) (args:=[.agg [.str ⟨1,77⟩,(.sl (τ 672) 0 1 (.op 1)),(.sl (τ 1087) 0 1 (.op 1)),(.sl (τ 902) 0 5 (.op 13))],.int .i64 (AA 3)]) rfl hP.2 hP.1)
  simp only[AS,A2,or_false]at he
  have ha:=congrArg Jj hf.args
  rcases he with rfl|rfl|rfl|rfl|rfl|rfl|rfl|rfl
  ·exact AD (show false=true from(congrArg (AK 1) ha).trans rfl)
  ·exact AD (show false=true from(congrArg (AK 2) ha).trans rfl)
  ·refine⟨_,_,by rw[Jn,hr],?_,Bu.fr0 Gq (by kernel_rfl) hf ht⟩
   exact .inr ⟨_,0,_,_,rfl,Bu.has Gq hf ht 1410 _ rfl,Ao rfl,rfl⟩
  ·exact AD (show false=true from(congrArg (AK 4) ha).trans rfl)
  ·exact AD (show false=true from(congrArg (AK 1) ha).trans rfl)
  ·exact AD (show false=true from(congrArg (AK 2) ha).trans rfl)
  ·refine⟨_,_,by rw[Jn,hr],?_,Bu.fr0 Gl (by kernel_rfl) hf ht⟩
   exact .inr ⟨_,0,_,_,rfl,Bu.has Gl hf ht 1114 _ rfl,Ao rfl,rfl⟩
  ·exact AD (show false=true from(congrArg (AK 4) ha).trans rfl)
 ·obtain⟨e,ρ,he,hf,hr⟩:=CX (e:=E2) (l:=[E8,E7,E6,E5,E4,E3,E2,E1]) (F:=BD E 600000 (TW E b) 97) (by simp) (C8 (e:=E2) (ρ:=τ) (args:=[.agg [.str ⟨1,77⟩,(.sl (τ 672) 0 1 (.op 1)),(.sl (τ 1087) 0 1 (.op 1)),(.sl (τ 902) 0 5 (.op 13))],.int .i64 (AA 3)]) rfl hP.2 hP.1)
  simp only[AS,A2,or_false]at he
  have ha:=congrArg Jj hf.args
  rcases he with rfl|rfl|rfl|rfl|rfl|rfl|rfl|rfl
  ·exact AD (show false=true from(congrArg (AK 1) ha).trans rfl)
  ·exact AD (show false=true from(congrArg (AK 2) ha).trans rfl)
  ·exact⟨_,by rw[Jl,hr];rfl,Bu.fr0 LP (by kernel_rfl) hf ht⟩
  ·exact AD (show false=true from(congrArg (AK 4) ha).trans rfl)
  ·exact AD (show false=true from(congrArg (AK 1) ha).trans rfl)
  ·exact AD (show false=true from(congrArg (AK 2) ha).trans rfl)
  ·exact⟨_,by rw[Jl,hr];rfl,Bu.fr0 LL (by kernel_rfl) hf ht⟩
  ·exact AD (show false=true from(congrArg (AK 4) ha).trans rfl)
theorem pg (a b:Nat):Bw (TW E (a+1) 96) (TW E (b+1) 97) (Pt H8 τ) [.str ⟨1,77⟩,(.sl (τ 672) 0 1 (.op 1)),(.sl (τ 1087) 0 1 (.op 1)),(.sl (τ 902) 0 5 (.op 13))] 4 1:=by
 refine⟨fun Z ht hP=>?_,fun Z ht hP=>?_⟩
 ·obtain⟨e,ρ,he,hf,hr⟩:=CX (e:=E9) (l:=[FG,FF,FE,FD,FC,FB,FA,E9]) (F:=BD E 600000 (TW E a) 96) (by simp) (C8 (e:=E9) (ρ:=τ) (args:=[.agg [.str ⟨1,77⟩,(.sl (τ 672) 0 1 (.op 1)),(.sl (τ 1087) 0 1 (.op 1)),(.sl (τ 902) 0 5 (.op 13))],.int .i64 (AA 4)]) rfl hP.2 hP.1)
  simp only[AS,A2,or_false]at he
  have ha:=congrArg Jj hf.args
  rcases he with rfl|rfl|rfl|rfl|rfl|rfl|rfl|rfl
  ·exact AD (show false=true from(congrArg (AK 1) ha).trans rfl)
  ·exact AD (show false=true from(congrArg (AK 2) ha).trans rfl)
  ·exact AD (show false=true from(congrArg (AK 3) ha).trans rfl)
  ·refine⟨_,_,by rw[Jn,hr],?_,Bu.fr0 Gp (by kernel_rfl) hf ht⟩
   exact .inr ⟨_,0,_,_,rfl,Bu.has Gp hf ht 1410 _ rfl,Ao rfl,rfl⟩
  ·exact AD (show false=true from(congrArg (AK 1) ha).trans rfl)
  ·exact AD (show false=true from(congrArg (AK 2) ha).trans rfl)
  ·exact AD (show false=true from(congrArg (AK 3) ha).trans rfl)
  ·refine⟨_,_,by rw[Jn,hr],?_,Bu.fr0 Gk (by kernel_rfl) hf ht⟩
   exact .inr ⟨_,0,_,_,rfl,Bu.has Gk hf ht 1114 _ rfl,Ao rfl,rfl⟩
 ·obtain⟨e,ρ,he,hf,hr⟩:=CX (e:=E1) (l:=[E8,E7,E6,E5,E4,E3,E2,E1]) (F:=BD E 600000 (TW E b) 97) (by simp) (C8 (e:=E1) (ρ:=τ) (args:=[.agg [.str ⟨1,77⟩,(.sl (τ 672) 0 1 (.op 1)),(.sl (τ 1087) 0 1 (.op 1)),(.sl (τ 902) 0 5 (.op 13))],.int .i64 (AA 4)]) rfl hP.2 hP.1)
  simp only[AS,A2,or_false]at he
  have ha:=congrArg Jj hf.args
  rcases he with rfl|rfl|rfl|rfl|rfl|rfl|rfl|rfl
  ·exact AD (show false=true from(congrArg (AK 1) ha).trans rfl)
  ·exact AD (show false=true from(congrArg (AK 2) ha).trans rfl)
  ·exact AD (show false=true from(congrArg (AK 3) ha).trans rfl)
  ·exact⟨_,by rw[Jl,hr];rfl,Bu.fr0 LO (by kernel_rfl) hf ht⟩
  ·exact AD (show false=true from(congrArg (AK 1) ha).trans rfl)
  ·exact AD (show false=true from(congrArg (AK 2) ha).trans rfl)
  ·exact AD (show false=true from(congrArg (AK 3) ha).trans rfl)
  ·exact⟨_,by rw[Jl,hr];rfl,Bu.fr0 LK (by kernel_rfl) hf ht⟩
theorem YD (a b:Nat):mF (TW E (a+1) 96) (TW E (b+1) 97) (Pt H8 τ) true ⟨1,77⟩ (.sl (τ 672) 0 1 (.op 1)) (.sl (τ 1087) 0 1 (.op 1)) (.sl (τ 902) 0 5 (.op 13)) (fu τ) (xp τ) where
 t4:=⟨⟨_,_,_,_,rfl,rfl,rfl,rfl,Cv _ rfl,Cv _ rfl,Cv _ rfl⟩⟩
 ptf:=gb
 row:=fun Z h=>gZ h
 frow:=fun Z h=>Yt h
 tg0:=fun Z h=>Qj h.2 rfl rfl rfl
 tg:=fun Z k h hk=>qN h k hk
 k0:=rfl
 itm:=rfl
 mor:=rfl
 kd:=fun k hk=>by
  have:k=0\/k=1\/k=2\/k=3:=by omega
  rcases this with rfl|rfl|rfl|rfl<;>rfl
 fty:=fun k hk=>by
  have:k=0\/k=1\/k=2\/k=3:=by omega
  rcases this with rfl|rfl|rfl|rfl<;>rfl
 bw:=fun k hk=>by
  have:k=0\/k=1\/k=2\/k=3:=by omega
  rcases this with rfl|rfl|rfl|rfl
  ·exact po a b
  ·exact pn a b
  ·exact ph a b
  ·exact pg a b
def Jk (e:Bu):Prop:=∃(set:Bool) (bits:List Bool) (g:V) (id:Nat),bits.length=4/\e.args=[g,.int .i64 (AA 0),.agg [.int .i64 (AA (kO set)),.int .i64 (AA 0),.nils,.sl 50 0 4 (.ex 4),.int .i64 (AA 0),.nils]]/\Go.Og.look e.bl0 50=some (.cells (HP (bits.map NO))) /\
 e.v = .tup [.sl id 0 (IM set (N0 set bits)).length (.op 1),.int .i64 (AA 0)]/\Go.Og.look e.bl1 id=some (.cells (oC (IM set (N0 set bits))))
theorem Zw:Jk Ri:=⟨false,[false,false,false,false],Jb,1473,rfl,rfl,rfl,rfl,rfl⟩
theorem Zv:Jk Rf:=⟨false,[true,false,false,false],Jb,1499,rfl,rfl,rfl,rfl,rfl⟩
theorem Zu:Jk Rd:=⟨false,[false,true,false,false],Jb,1499,rfl,rfl,rfl,rfl,rfl⟩
theorem Zt:Jk Rb:=⟨false,[true,true,false,false],Jb,1523,rfl,rfl,rfl,rfl,rfl⟩
theorem Zr:Jk RZ:=⟨false,[false,false,true,false],Jb,1499,rfl,rfl,rfl,rfl,rfl⟩
theorem Zq:Jk RX:=⟨false,[true,false,true,false],Jb,1523,rfl,rfl,rfl,rfl,rfl⟩
theorem Zp:Jk RV:=⟨false,[false,true,true,false],Jb,1523,rfl,rfl,rfl,rfl,rfl⟩
theorem Zo:Jk RT:=⟨false,[true,true,true,false],Jb,1547,rfl,rfl,rfl,rfl,rfl⟩
theorem Zn:Jk RR:=⟨false,[false,false,false,true],Jb,1499,rfl,rfl,rfl,rfl,rfl⟩
theorem Zm:Jk RP:=⟨false,[true,false,false,true],Jb,1523,rfl,rfl,rfl,rfl,rfl⟩
theorem Xe:Jk NG:=⟨false,[false,true,false,true],Jb,1523,rfl,rfl,rfl,rfl,rfl⟩
theorem Xd:Jk NF:=⟨false,[true,true,false,true],Jb,1547,rfl,rfl,rfl,rfl,rfl⟩
theorem Xc:Jk ND:=⟨false,[false,false,true,true],Jb,1523,rfl,rfl,rfl,rfl,rfl⟩
theorem Xb:Jk NC:=⟨false,[true,false,true,true],Jb,1547,rfl,rfl,rfl,rfl,rfl⟩
theorem Xa:Jk NB:=⟨false,[false,true,true,true],Jb,1547,rfl,rfl,rfl,rfl,rfl⟩
theorem XZ:Jk NA:=⟨false,[true,true,true,true],Jb,1571,rfl,rfl,rfl,rfl,rfl⟩
theorem Zl:Jk RN:=⟨true,[false,false,false,false],Ja,1177,rfl,rfl,rfl,rfl,rfl⟩
theorem Zk:Jk RL:=⟨true,[true,false,false,false],Ja,1203,rfl,rfl,rfl,rfl,rfl⟩
theorem Zj:Jk RJ:=⟨true,[false,true,false,false],Ja,1203,rfl,rfl,rfl,rfl,rfl⟩
theorem Zi:Jk RH:=⟨true,[true,true,false,false],Ja,1275,rfl,rfl,rfl,rfl,rfl⟩
theorem Zh:Jk RF:=⟨true,[false,false,true,false],Ja,1203,rfl,rfl,rfl,rfl,rfl⟩
theorem Zg:Jk RD:=⟨true,[true,false,true,false],Ja,1277,rfl,rfl,rfl,rfl,rfl⟩
theorem Zf:Jk RB:=⟨true,[false,true,true,false],Ja,1277,rfl,rfl,rfl,rfl,rfl⟩
theorem Ze:Jk Q9:=⟨true,[true,true,true,false],Ja,1349,rfl,rfl,rfl,rfl,rfl⟩
theorem Zd:Jk Q7:=⟨true,[false,false,false,true],Ja,1203,rfl,rfl,rfl,rfl,rfl⟩
theorem Za:Jk Q5:=⟨true,[true,false,false,true],Ja,1275,rfl,rfl,rfl,rfl,rfl⟩
theorem XY:Jk M9:=⟨true,[false,true,false,true],Ja,1277,rfl,rfl,rfl,rfl,rfl⟩
theorem XX:Jk M8:=⟨true,[true,true,false,true],Ja,1397,rfl,rfl,rfl,rfl,rfl⟩
theorem XW:Jk M7:=⟨true,[false,false,true,true],Ja,1275,rfl,rfl,rfl,rfl,rfl⟩
theorem XV:Jk M6:=⟨true,[true,false,true,true],Ja,1397,rfl,rfl,rfl,rfl,rfl⟩
theorem XU:Jk M5:=⟨true,[false,true,true,true],Ja,1399,rfl,rfl,rfl,rfl,rfl⟩
theorem XT:Jk M4:=⟨true,[true,true,true,true],Ja,1519,rfl,rfl,rfl,rfl,rfl⟩
theorem kv:∀e∈HW,Jk e:=by
 unfold HW
 simp only[Gx,A2,false_implies,implies_true,and_true]
 exact⟨Zw,Zv,Zu,Zt,Zr,Zq,Zp,Zo,Zn,Zm,Xe,Xd,Xc,Xb,Xa,XZ,Zl,Zk,Zj,Zi,Zh,Zg,Zf,Ze,Zd,Za,XY,XX,XW,XV,XU,XT⟩
theorem ky (set a b c d:Bool):∃e∈HW,e=Ir (match set with | true=>H8 | false=>H9) (match set with | true=>Ja | false=>Jb) (kO set) a b c d (match e.v with | .tup (.sl id _ _ _::_)=>id | _=>0) (match e.v with | .tup (.sl _ _ n _::_)=>n | _=>0) e.n1 (.op 1) (match e.bl1 with | (_,.cells o)::_=>o | _=>[]):=by
 cases set<;>cases a<;>cases b<;>cases c<;>cases d
 ·exact⟨Ri,by unfold HW;simp only[AS,true_or,or_true],rfl⟩
 ·exact⟨RR,by unfold HW;simp only[AS,true_or,or_true],rfl⟩
 ·exact⟨RZ,by unfold HW;simp only[AS,true_or,or_true],rfl⟩
 ·exact⟨ND,by unfold HW;simp only[AS,true_or,or_true],rfl⟩
 ·exact⟨Rd,by unfold HW;simp only[AS,true_or,or_true],rfl⟩
 ·exact⟨NG,by unfold HW;simp only[AS,true_or,or_true],rfl⟩
 ·exact⟨RV,by unfold HW;simp only[AS,true_or,or_true],rfl⟩
 ·exact⟨NB,by unfold HW;simp only[AS,true_or,or_true],rfl⟩
 ·exact⟨Rf,by unfold HW;simp only[AS,true_or,or_true],rfl⟩
 ·exact⟨RP,by unfold HW;simp only[AS,true_or,or_true],rfl⟩
 ·exact⟨RX,by unfold HW;simp only[AS,true_or,or_true],rfl⟩
 ·exact⟨NC,by unfold HW;simp only[AS,true_or,or_true],rfl⟩
 ·exact⟨Rb,by unfold HW;simp only[AS,true_or,or_true],rfl⟩
 ·exact⟨NF,by unfold HW;simp only[AS,true_or,or_true],rfl⟩
 ·exact⟨RT,by unfold HW;simp only[AS,true_or,or_true],rfl⟩
 ·exact⟨NA,by unfold HW;simp only[AS,true_or,or_true],rfl⟩
 ·exact⟨RN,by unfold HW;simp only[AS,true_or,or_true],rfl⟩
 ·exact⟨Q7,by unfold HW;simp only[AS,true_or,or_true],rfl⟩
 ·exact⟨RF,by unfold HW;simp only[AS,true_or,or_true],rfl⟩
 ·exact⟨M7,by unfold HW;simp only[AS,true_or,or_true],rfl⟩
 ·exact⟨RJ,by unfold HW;simp only[AS,true_or,or_true],rfl⟩
 ·exact⟨M9,by unfold HW;simp only[AS,true_or,or_true],rfl⟩
 ·exact⟨RB,by unfold HW;simp only[AS,true_or,or_true],rfl⟩
 ·exact⟨M5,by unfold HW;simp only[AS,true_or,or_true],rfl⟩
 ·exact⟨RL,by unfold HW;simp only[AS,true_or,or_true],rfl⟩
 ·exact⟨Q5,by unfold HW;simp only[AS,true_or,or_true],rfl⟩
 ·exact⟨RD,by unfold HW;simp only[AS,true_or,or_true],rfl⟩
 ·exact⟨M6,by unfold HW;simp only[AS,true_or,or_true],rfl⟩
 ·exact⟨RH,by unfold HW;simp only[AS,true_or,or_true],rfl⟩
 ·exact⟨M8,by unfold HW;simp only[AS,true_or,or_true],rfl⟩
 ·exact⟨Q9,by unfold HW;simp only[AS,true_or,or_true],rfl⟩
 ·exact⟨M4,by unfold HW;simp only[AS,true_or,or_true],rfl⟩
theorem Vb (b:Bool):bO b=(NO b).c:=by cases b<;>rfl
def kb (l:List V):List Bool:=[l[0]?,l[6]?,l[12]?,l[18]?].map fun o=>match o with
 | some (.int _ (.ofNat 4))=>true
 | _=>false
theorem ZK:∀bits:List Bool,bits.length=4->kb (HP (bits.map NO))=bits
 | [a,b,c,d],_=>by cases a<;>cases b<;>cases c<;>cases d<;>rfl
theorem U8 (ρ:Nat->Nat):∀bits:List Bool,bits.length=4->Jp ρ (HP (bits.map NO))=HP (bits.map NO)
 | [a,b,c,d],_=>by cases a<;>cases b<;>cases c<;>cases d<;>rfl
theorem YY (ρ:Nat->Nat):∀L:List Nat,Jp ρ (oC L)=oC L
 | []=>rfl
 | c::L=>by
  show .int .u8 (AA c)::Jp ρ (oC L) = .int .u8 (AA c)::oC L
  rw[YY]
theorem W8 {l:List Bu} {F:List V->H->AG} {args:List V} {Z:H} (h:∀e∈l,∀ρ,¬e.Fits ρ args Z):I6 l F args Z=F args Z:=by
 unfold I6
 exact dif_neg fun⟨q,h1,h2⟩=>h q.1 h1 q.2 h2
theorem qf {a b:Bool} (h:kO a=kO b):a=b:=by cases a<;>cases b<;>first | rfl | cases h
def kp (T:Bu):Bool:=T.bl1.all fun x=>match x.2 with
 | .cells l=>!AK l.length 24
 | _=>true
theorem U9 (ρ:Nat->Nat):∀l:List V,(Jp ρ l).length=l.length
 | []=>rfl
 | v::l=>by
  show (Jp ρ l).length+1=l.length+1
  rw[U9]
theorem Vs {T:Bu} (h:kp T=true) {Z:H} (hP:Pt T τ Z) {q:Nat} {l:List V} (ha:CU Z q l) (hl:l.length=24) {id:Nat} (hd:Cz T.bl1 id=true):τ id≠q:=by
 intro e
 obtain⟨c,hc⟩:=CI.1 hd
 have h1:=hP.2 id c hc
 rw[e,show BB Z.bl q=some (.cells l)from ha]at h1
 have h2:=CP.1 h (id,c) (Ey hc)
 cases c with
 | cells m=>
  have h1:some (Ea.cells l)=some (.cells (Jp τ m)):=h1
  injection h1 with h1
  injection h1 with h1
  have:(Jp τ m).length=24:=by rw[<-h1,hl]
  rw[U9]at this
  have h2:(!AK m.length 24)=true:=h2
  rw[this]at h2
  cases h2
 | map m=>cases h1
 | siter s q=>cases h1
 | unit t=>cases h1
def Qk (τ:Nat->Nat) (q:Nat) (i:Nat):Nat:=if i=50 then q else τ i
theorem TH {T:Bu} {g:V} {set:Bool} (h24:kp T=true) (h50:Cz T.bl1 50=false) (hall:TZ T.bl1 (Cz T.bl1)=true) (hin:V.inn (Cz T.bl1) g=true) {a b c d:Bool} {id n n1:Nat} {o:List V} {F:List V->H->AG} {Z:H} {q:Nat} (ht:BG Z) (hP:Pt T τ Z) (ha:CU Z q (HP ([a,b,c,d].map NO))) (he:Ir T g (kO set) a b c d id n n1 (.op 1) o∈HW) :
  ∃w Z',I6 HW F [g.rn τ,.int .i64 (AA 0),.agg (Vr (kO set) (.sl q 0 4 (.ex 4)) rfl (AA 0) .nils rfl).c] Z=some (.tup [w,.int .i64 (AA 0)],Z')/\Oc Z' w (IM set (N0 set [a,b,c,d]))/\Fr AN Z Z':=by
 have hl24:(HP ([a,b,c,d].map NO)).length=24:=by rw[Kn];rfl
 have hcells:bO a++(bO b++(bO c++bO d))=HP ([a,b,c,d].map NO):=by
  rw[Vb,Vb,Vb,Vb]
  show _=(NO a).c++((NO b).c++((NO c).c++((NO d).c++[])))
  rw[C6]
 have ne50:∀i,Cz T.bl1 i=true->i≠50:=fun i hi e=>by rw[e,h50]at hi;cases hi
 have pl:∀i,Cz T.bl1 i=true->Qk τ q i=τ i:=fun i hi=>by unfold Qk;rw[if_neg (ne50 i hi)]
 have fits:(Ir T g (kO set) a b c d id n n1 (.op 1) o).Fits (Qk τ q) [g.rn τ,.int .i64 (AA 0),.agg (Vr (kO set) (.sl q 0 4 (.ex 4)) rfl (AA 0) .nils rfl).c] Z:=by
  have bl0:(Ir T g (kO set) a b c d id n n1 (.op 1) o).bl0=(50,.cells (bO a++(bO b++(bO c++bO d))))::T.bl1:=rfl
  have lk:∀i b',Go.Og.look ((50,Ea.cells (bO a++(bO b++(bO c++bO d))))::T.bl1) i=some b'->(i=50/\b' = .cells (HP ([a,b,c,d].map NO)))\/Go.Og.look T.bl1 i=some b':=fun i b' h=>by
   simp only[Go.Og.look]at h
   split at h
   ·rename_i hb
    have:=BZ hb
    simp only[AL.injEq]at h
    rw[hcells]at h
    exact .inl ⟨this.symm,h.symm⟩
   ·exact .inr h
  refine⟨?_,fun i b' h=>?_,fun i j hi hj e=>?_⟩
  ·show [g.rn τ,_,_]=[g.rn (Qk τ q),_,.agg [_,_,_,.sl (Qk τ q 50) 0 4 _,_,_]]
   rw[rn_congr (p:=Cz T.bl1) (ρ:=τ) (τ:=Qk τ q) (fun b hb=>(pl b hb).symm) g hin]
   rfl
  ·rw[bl0]at h
   rcases lk i b' h with ⟨rfl,rfl⟩|h
   ·show Go.Og.look Z.bl (Qk τ q 50)=some (.cells (Jp (Qk τ q) (HP ([a,b,c,d].map NO))))
    rw[U8 _ _ rfl,<-Ap]
    exact ha
   ·have hd:Cz T.bl1 i=true:=CI.2 ⟨_,h⟩
    rw[pl i hd,<-Ap,hP.2 i b' h]
    rw[Ea.rn_congr (p:=Cz T.bl1) (ρ:=τ) (τ:=Qk τ q) (fun b hb=>(pl b hb).symm) (KS hall h)]
  ·rw[bl0]at hi hj
   obtain⟨b1,h1⟩:=CI.1 hi
   obtain⟨b2,h2⟩:=CI.1 hj
   rcases lk i b1 h1 with ⟨rfl,_⟩|h1<;>rcases lk j b2 h2 with ⟨rfl,_⟩|h2
   ·rfl
   ·have hd:=CI.2 ⟨_,h2⟩
    rw[pl j hd]at e
    exact absurd e.symm (Vs h24 hP ha hl24 hd)
   ·have hd:=CI.2 ⟨_,h1⟩
    rw[pl i hd]at e
    exact absurd e (Vs h24 hP ha hl24 hd)
   ·have hd1:=CI.2 ⟨_,h1⟩
    have hd2:=CI.2 ⟨_,h2⟩
    rw[pl i hd1,pl j hd2]at e
    exact hP.1 _ _ hd1 hd2 e
 obtain⟨e,ρ,he',hf,hr⟩:=CX (F:=F) he fits
 obtain⟨set',bits,g',id',hb4,hargs,hb0,hv,hb1⟩:=kv e he'
 have hsh:=CP.1 XO e he'
 rw[AF]at hsh
 have hx:=hf.args
 rw[hargs]at hx
 have hx:[g.rn τ,.int .i64 (AA 0),.agg [.int .i64 (AA (kO set)),.int .i64 (AA 0),.nils,.sl q 0 4 (.ex 4),.int .i64 (AA 0),.nils]]=[g'.rn ρ,V.int .i64 (AA 0),.agg [.int .i64 (AA (kO set')),.int .i64 (AA 0),.nils,.sl (ρ 50) 0 4 (.ex 4),.int .i64 (AA 0),.nils]]:=hx
 injection hx with _ hx
 injection hx with _ hx
 injection hx with hx _
 injection hx with hx
 injection hx with hk hx
 injection hk with _ hk
 have hk:=qf (AA.inj hk)
 injection hx with _ hx
 injection hx with _ hx
 injection hx with hq _
 injection hq with hq
 subst hk
 have hl:=hf.bl 50 _ hb0
 rw[<-hq,<-Ap,show BB Z.bl q=some (.cells (HP ([a,b,c,d].map NO)))from ha]at hl
 have hl:some (Ea.cells (HP ([a,b,c,d].map NO)))=some (.cells (Jp ρ (HP (bits.map NO)))):=hl
 injection hl with hl
 injection hl with hl
 rw[U8 _ _ hb4]at hl
 have hbits:bits=[a,b,c,d]:=by
  have:=congrArg kb hl
  rw[ZK _ hb4,ZK _ rfl]at this
  exact this.symm
 subst hbits
 have hres:I6 HW F [g.rn τ,.int .i64 (AA 0),.agg (Vr (kO set) (.sl q 0 4 (.ex 4)) rfl (AA 0) .nils rfl).c] Z=some (e.ans ρ Z):=hr
 have hh:=Bu.has hsh.1 hf ht id' _ hb1
 refine⟨.sl (e.to ρ Z id') 0 (IM set (N0 set [a,b,c,d])).length (.op 1),(e.ans ρ Z).2,?_,?_,Bu.fr0 hsh.1 hsh.2 hf ht⟩
 ·rw[hres]
  show some (e.v.rn (e.to ρ Z),_)=_
  rw[hv]
  rfl
 ·have hh:BB (e.ans ρ Z).2.bl (e.to ρ Z id')=some (.cells (Jp (e.to ρ Z) (oC (IM set (N0 set [a,b,c,d]))))):=hh
  rw[YY]at hh
  refine .inr ⟨_,0,.op 1,oC (IM set (N0 set [a,b,c,d])),rfl,.inl rfl,hh,by rw[I1];omega,?_⟩
  rw[Cl]
  exact DB (by rw[I1];exact AQ _)
theorem TG {set:Bool} {g:V} {F:List V->H->AG} {Z:H} {q n:Nat} {m:V} {hm:m.one=true} {r:Int} (hml:Tm m n) (h0:0<n):I6 HW F [g,.int .i64 (AA 0),.agg (Vr (kO set) (.sl q 0 4 (.ex 4)) rfl r m hm).c] Z=F [g,.int .i64 (AA 0),.agg (Vr (kO set) (.sl q 0 4 (.ex 4)) rfl r m hm).c] Z:=by
 refine W8 fun e he ρ hf=>?_
 obtain⟨set',bits,g',id',hb4,hargs,hb0,hv,hb1⟩:=kv e he
 have hx:=hf.args
 rw[hargs]at hx
 have hx:[g,.int .i64 (AA 0),.agg [.int .i64 (AA (kO set)),.int .i64 (AA 0),.nils,.sl q 0 4 (.ex 4),.int .i64 r,m]]=[g'.rn ρ,V.int .i64 (AA 0),.agg [.int .i64 (AA (kO set')),.int .i64 (AA 0),.nils,.sl (ρ 50) 0 4 (.ex 4),.int .i64 (AA 0),.nils]]:=hx
 injection hx with _ hx
 injection hx with _ hx
 injection hx with hx _
 injection hx with hx
 injection hx with _ hx
 injection hx with _ hx
 injection hx with _ hx
 injection hx with _ hx
 injection hx with _ hx
 injection hx with hx _
 subst hx
 have:=hml.2 (fun k=>some (.int .i64 (AA k),Z))
 have this:some (V.int .i64 (AA 0),Z)=some (.int .i64 (AA n),Z):=this
 injection this with this
 injection this with this _
 injection this with _ this
 have:=AA.inj this
 omega
theorem pc (d:Nat):Uh (Pt H9 τ) false ⟨1,77⟩ (.sl (τ 706) 0 1 (.op 1)) (.sl (τ 1383) 0 1 (.op 1)) (.sl (τ 936) 0 5 (.op 13)) (TW E (d+1) 16):=by
 intro Z q bits ht hP hb ha
 rw[kT]
 match bits,hb with
 | [a,b,c,d'],_=>
  obtain⟨e,he,hee⟩:=ky false a b c d'
  rw[hee]at he
  exact TH (T:=H9) (g:=Jb) (set:=false) (by kernel_rfl) (by kernel_rfl) (by kernel_rfl) (by kernel_rfl) ht hP ha he
theorem pf (d:Nat):R9 (Pt H9 τ) false ⟨1,77⟩ (.sl (τ 706) 0 1 (.op 1)) (.sl (τ 1383) 0 1 (.op 1)) (.sl (τ 936) 0 5 (.op 13)) (TW E (d+5) 16):=by
 intro Z q n m hm r gs ht hP hg ha hml h0
 rw[kT,TG hml h0]
 exact ZX (YE (E:=E) (τ:=τ) 0 0) (wz d) hm ht hP hg ha hml h0
theorem w7 (d:Nat):Pw (Pt H9 τ) false ⟨1,77⟩ (.sl (τ 706) 0 1 (.op 1)) (.sl (τ 1383) 0 1 (.op 1)) (.sl (τ 936) 0 5 (.op 13)) (TW E (d+8) 9):=by
 rw[DE9]
 exact aI (YE (E:=E) (τ:=τ) (d+1) (d+1)) (wu (d+0)) (by decide) (pf (d+2)) (pc (d+6)) (pz (d+6))
theorem pa (d:Nat):Uh (Pt H8 τ) true ⟨1,77⟩ (.sl (τ 672) 0 1 (.op 1)) (.sl (τ 1087) 0 1 (.op 1)) (.sl (τ 902) 0 5 (.op 13)) (TW E (d+1) 16):=by
 intro Z q bits ht hP hb ha
 rw[kT]
 match bits,hb with
 | [a,b,c,d'],_=>
  obtain⟨e,he,hee⟩:=ky true a b c d'
  rw[hee]at he
  exact TH (T:=H8) (g:=Ja) (set:=true) (by kernel_rfl) (by kernel_rfl) (by kernel_rfl) (by kernel_rfl) ht hP ha he
theorem pd (d:Nat):R9 (Pt H8 τ) true ⟨1,77⟩ (.sl (τ 672) 0 1 (.op 1)) (.sl (τ 1087) 0 1 (.op 1)) (.sl (τ 902) 0 5 (.op 13)) (TW E (d+5) 16):=by
 intro Z q n m hm r gs ht hP hg ha hml h0
 rw[kT,TG hml h0]
 exact ZX (YD (E:=E) (τ:=τ) 0 0) (wz d) hm ht hP hg ha hml h0
theorem w4 (d:Nat):Pw (Pt H8 τ) true ⟨1,77⟩ (.sl (τ 672) 0 1 (.op 1)) (.sl (τ 1087) 0 1 (.op 1)) (.sl (τ 902) 0 5 (.op 13)) (TW E (d+8) 9):=by
 rw[DE9]
 exact aI (YD (E:=E) (τ:=τ) (d+1) (d+1)) (wu (d+0)) (by decide) (pd (d+2)) (pa (d+6)) (pz (d+6))
end
section
variable {E:EB}
theorem ADR (d:Nat) (set:Bool):mG (TW E (d+8)) (TW E (d+8) 6) set:=by
 intro Z ht
 cases set with
 | false=>
  have hne:¬t0=t1:=fun e=>by
   have:AK t0.len t1.len=true:=by rw[e];exact SR _
   exact AD (show false=true from this)
  obtain⟨e,ρ,he,hf,hr⟩:=CX (e:=H9) (l:=[H9,H8]) (F:=BD E 600000 (TW E (d+7)) 6) (by simp) (C8 (e:=H9) (ρ:=fun x=>x) (args:=[.str t0]) (Z:=Z) rfl YB.nil pG.nil)
  have hee:e=H9:=by
   simp only[AS,A2,or_false]at he
   rcases he with rfl|rfl
   ·rfl
   ·exfalso;have hx:[V.str t0]=[.str t1]:=hf.args;injection hx with hx _;injection hx with hx;exact hne hx
  subst hee
  have ht0:tO false=t0:=by kernel_rfl
  exact⟨Pt H9 (H9.to ρ Z),_,_,_,_,_,by rw[show d+8=(d+7)+1 from rfl,DE6,ht0,hr];rfl,Bu.fr0 L5 (by kernel_rfl) hf ht,⟨Bu.to_inj L5 hf ht,Bu.has L5 hf ht⟩,gb,(YE (E:=E) (τ:=H9.to ρ Z) 0 0).t4,w7 d⟩
 | true=>
  have hne:¬t1=t0:=fun e=>by
   have:AK t1.len t0.len=true:=by rw[e];exact SR _
   exact AD (show false=true from this)
  obtain⟨e,ρ,he,hf,hr⟩:=CX (e:=H8) (l:=[H9,H8]) (F:=BD E 600000 (TW E (d+7)) 6) (by simp) (C8 (e:=H8) (ρ:=fun x=>x) (args:=[.str t1]) (Z:=Z) rfl YB.nil pG.nil)
  have hee:e=H8:=by
   simp only[AS,A2,or_false]at he
   rcases he with rfl|rfl
   ·exfalso;have hx:[V.str t1]=[.str t0]:=hf.args;injection hx with hx _;injection hx with hx;exact hne hx
   ·rfl
  subst hee
  have ht0:tO true=t1:=by kernel_rfl
  exact⟨Pt H8 (H8.to ρ Z),_,_,_,_,_,by rw[show d+8=(d+7)+1 from rfl,DE6,ht0,hr];rfl,Bu.fr0 L4 (by kernel_rfl) hf ht,⟨Bu.to_inj L4 hf ht,Bu.has L4 hf ht⟩,gb,(YD (E:=E) (τ:=H8.to ρ Z) 0 0).t4,w4 d⟩
theorem xAw (d:Nat):jG (TW E (d+1) 10):=by
 intro Z ht
 obtain⟨ρ,hf,hr⟩:=ADu (e:=wS) (F:=BD E 600000 (TW E d) 10) (C8 (e:=wS) (ρ:=fun x=>x) (args:=[]) (Z:=Z) rfl YB.nil pG.nil)
 exact⟨_,by rw[AGd,hr];rfl,Bu.fr0 Xf (by kernel_rfl) hf ht⟩
theorem aD {a:V} {n:Nat} {f:Nat->Int} (ha:wi E a n f) (ho:a.one=true) (set:Bool):okB (F4 E (TW E 59) (AZ E (TW E 59)) 600000 [a,.bool set] ⟨100,[]⟩)=true:=by
 have ht:BG ⟨100,[]⟩:=fun _ _=>rfl
 obtain⟨Z',h⟩:=qc (E:=E) (D:=TW E 59) (N:=600000) (fun s=>ADR 51 s) (ADZ 56) (xAw 58) (wq 57) (ADS 55) (by decide) ht (AQ _) rfl ha ho set
 rw[h];rfl
end
end
end Go.Proofs.YtoengnbdallegaaGreatDoor
namespace Go.Proofs.YtoengnbdallegaaGreatDoor.derinOrder
open Go
theorem XB:(Rows.derinOrderRow.inPlace==Tryz.pinned.checked.prog.inPlace 4)=true:=by kernel_rfl
theorem Qq:(Rows.derinOrderRow.unfollowed==Tryz.pinned.checked.prog.unfollowed 4)=true:=by kernel_rfl
theorem UI:(Rows.derinOrderRow.recurses==Tryz.pinned.checked.prog.recurses 4)=true:=by kernel_rfl
theorem S5:(Rows.derinOrderRow.named==Tryz.pinned.checked.prog.varsNamed 4)=true:=by kernel_rfl
end Go.Proofs.YtoengnbdallegaaGreatDoor.derinOrder
