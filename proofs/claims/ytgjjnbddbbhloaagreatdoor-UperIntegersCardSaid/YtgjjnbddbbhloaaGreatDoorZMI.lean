/- oghamlaw19.UperIntegers answers true for every input: the tied card. No condition beyond the row's own. -/
import Derived.Test.YtgjjnbddbbhloaaGreatDoorCards
import Derived.Test.YtgjjnbddbbhloaaGreatDoorTie
import Derived.WalkKit
import Derived.ProofKit
import Derived.OpenShut
import Derived.Carry
import Derived.LaidMore
import Derived.Lay
import Derived.SevenTiedAt
import Derived.Stop.Joined
import Derived.Test.YtgjjnbddbbhloaaGreatDoorQ6
set_option maxRecDepth 100000
set_option maxHeartbeats 0
set_option linter.all false
namespace Go.Proofs.YtgjjnbddbbhloaaGreatDoor.uperIntegers
open Go Go.Og Go.ChangeShapes Go.WideShapes Go.ChangeAt Go.RowKit
theorem wf_in {n:Int} (h:(Lit.int .i64 n).wf=true):In64i n:=by
 have h3:(decide (IntKind.min .i64≤n)&&decide (n≤IntKind.max .i64))=true:=h
 simp only[Bool.and_eq_true,decide_eq_true_eq]at h3
 exact h3
theorem trod_wf {H:Type} {enc:TypeId × Value→H} {P:Program} {w:World} {t:TypeId} {k:IntKind} {x:Int} {d:DataW H} {ps:List MemPlace} (he:P.underlying t=some (.int k)) (h:DataW.Trod enc P w 0 (fun _=>true) true t (.int k x) d ps):(Lit.int k x).wf=true:=by
 obtain⟨n,h⟩:=h
 cases n with
 | zero=>simp[DataW.trod]at h
 | succ n=>
  unfold DataW.trod at h
  rw[he]at h
  simp only[Value.cells]at h
  split at h<;>simp_all
theorem walk (x0:Int) (x1:Int) (x2:Int) (x3:Bool) (w:World) (i0:In64i x0) (i1:In64i x1):Calls Tryz.prog 5 #[.int .i64 x0,.int .i64 x1,.int .u64 x2,.bool x3] w fun e w'=>e = .returned (.bool true)∧RowKit.Below w.heap.size w w':=by
 exact law_below (SF5 [] (TW [] 59) (TW_ok [] 59) 600000) globLt (by decide:2≤100) [] [.int .i64 x0,.int .i64 x1,.int .u64 x2,.bool x3] [.int .i64 x0,.int .i64 x1,.int .u64 x2,.bool x3] w (fun id i h=>by simp[Go.Og.look]at h) (by simp[concs,conc,BS.toList_ofList,argR,Go.Og.look]) (ui_law i0 i1 x3)
theorem laidOut:laidOutB Tryz.prog=true:=by kernel_rfl
theorem own:ownKnob Tryz.prog.godebug=none:=by kernel_rfl
theorem lifted (os:Os) (started:os.Started) (H:Type) (enc:TypeId × Value→H) :
    ReturnsInHanded {} Tryz.checked os 5 .any (fun w args=>(Rows.uperIntegersSpec.pre enc Tryz.prog Tryz.f5 Rows.uperIntegersRow.domain false w args∧laidMetH Tryz.prog Rows.uperIntegersRow.laid w)∧sizedMet enc Tryz.prog Tryz.f5 (OpenSpec.ofChange Rows.uperIntegersSpec) false w args)
      (Rows.uperIntegersSpec.post enc Tryz.prog Tryz.f5 false true false false):=by
  refine returnsInHanded_of_change_and (C:=Tryz.checked) (X:=fun w _=>laidMetH Tryz.prog Rows.uperIntegersRow.laid w) (fun _ _ _ hh h=>h.of_heap hh) own started (by kernel_rfl) Tryz.func5
    (ChangeSpec.witness_shaped (enc:=enc) (C:=Tryz.checked) (os:=os) (X:=fun w _=>laidMetH Tryz.prog Rows.uperIntegersRow.laid w) false (World.laidAll Tryz.prog os Rows.uperIntegersRow.laid) #[.int .i64 0,.int .i64 0,.int .u64 0,.bool false] 8 (World.laidAll_os _ _ _)
      (World.shaped_of_ZipB (by kernel_rfl) (by kernel_rfl)) (by kernel_rfl) (by kernel_rfl) (by kernel_rfl)
      (by rw[MakeChecks.laidMetH_plain _ _ _ (by kernel_rfl)];exact laidMet_laidAll _ (by kernel_rfl) (by kernel_rfl))) ?_
  intro W base args ds gs before hval0 hW hc _ hL _
  have hval:∀(j:Nat) t v,Tryz.f5.params[j]? = some t→args[j]? = some v→Value.okWide Tryz.prog W .any base t v:=hval0
  have hW':=hW
  obtain⟨p,q,hA0,hV,rfl,_,_⟩:=hW
  have hA:DataW.TrodAll enc Tryz.prog W 0 (fun _=>true) true Tryz.f5.params.toList args.toList ds p:=hA0
  have hlt:∀y∈p,y.block<W.heap.size:=DataW.TrodAll.lt hA
  rw[Tryz.params5]at hA hval
  obtain⟨v0,v1,v2,v3,d0,d1,d2,d3,p0,p1,p2,p3,rfl,rfl,rfl,h0,h1,h2,h3⟩:=trodAll_four hA
  obtain⟨rfl,rfl⟩:=trodVars_none hV
  obtain⟨x0,rfl⟩:=cell_int Tryz.underlying2 (by have h:=hval 0 2 v0 rfl rfl;unfold Value.okWide at h;rw[Tryz.underlying2]at h;exact h)
  obtain⟨x1,rfl⟩:=cell_int Tryz.underlying2 (by have h:=hval 1 2 v1 rfl rfl;unfold Value.okWide at h;rw[Tryz.underlying2]at h;exact h)
  obtain⟨x2,rfl⟩:=cell_int Tryz.underlying26 (by have h:=hval 2 26 v2 rfl rfl;unfold Value.okWide at h;rw[Tryz.underlying26]at h;exact h)
  obtain⟨x3,rfl⟩:=okWide_bool Tryz.underlying4 (hval 3 4 v3 rfl rfl)
  simp only[List.append_nil]at hW'
  refine(walk x0 x1 x2 x3 W (wf_in (trod_wf Tryz.underlying2 h0)) (wf_in (trod_wf Tryz.underlying2 h1))).mono fun e W' ⟨he,hb⟩=>?_
  subst he
  refine⟨_,rfl,_,_,_,[],p0++(p1++(p2++p3)),[],hW',?_,?_,?_,World.keptBut_mono (fun _ f=>f.elim) (hb.frame (fun _=>False)),fun h=>by cases h⟩
  · exact trodAll_mk1 (shut_bool Tryz.underlying4 true)
  · exact trodAll_mk4 (Below.trod laidOut (by kernel_rfl) (of_decide_eq_true (by kernel_rfl)) h0 hb (fun y hy=>hlt y (by simp[hy]))) (Below.trod laidOut (by kernel_rfl) (of_decide_eq_true (by kernel_rfl)) h1 hb (fun y hy=>hlt y (by simp[hy]))) (Below.trod laidOut (by kernel_rfl) (of_decide_eq_true (by kernel_rfl)) h2 hb (fun y hy=>hlt y (by simp[hy]))) (Below.trod laidOut (by kernel_rfl) (of_decide_eq_true (by kernel_rfl)) h3 hb (fun y hy=>hlt y (by simp[hy])))
  · rfl
theorem said:Rows.UperIntegersSaid:=
 OpenClaim.holds_of_wide 5 Tryz.f5 rfl rfl rfl rfl rfl rfl rfl ⟨rfl,rfl,rfl,rfl,rfl⟩ rfl rfl rfl rfl rfl (by kernel_rfl) Tryz.func5 (by unfold joinedFacts;rw[k_inPlace,k_unfollowed,k_recurses,k_varsNamed];kernel_rfl)
  (of_decide_eq_true (by kernel_rfl)) (by unfold Func.isWrapper;first | (rw[if_pos (by decide +kernel)];kernel_rfl) | (rw[if_neg (by decide +kernel)];exact⟨rfl,rfl⟩))
  (fun os started H enc _=>lifted os started H enc)
theorem plain (f:FuncId) (fn:Func) (hf:Tryz.pinned.checked.prog.funcNamed Rows.uperIntegersRow.func=some f) (hfn:Tryz.pinned.checked.prog.funcs[f]? = some fn) :
  false=Tryz.pinned.checked.prog.looks []∧∀(j:Nat) t,fn.params[j]? = some t→Tryz.pinned.checked.prog.wantsStandIn t=false:=by
 obtain rfl:f=5:=Option.some.inj ((show Tryz.prog.funcNamed Rows.uperIntegersRow.func=some 5 by kernel_rfl).symm.trans hf) |>.symm
 obtain rfl:fn=Tryz.f5:=(Option.some.inj (Tryz.func5.symm.trans hfn)).symm
 refine⟨by kernel_rfl,fun j t ht=>?_⟩
 rw[Tryz.params5]at ht
 have hm:=Array.mem_of_getElem? ht
 simp only[List.mem_toArray,List.mem_cons,List.not_mem_nil,or_false]at hm
 rcases hm with rfl|rfl|rfl|rfl
 ·exact(show Tryz.prog.wantsStandIn 2=false by kernel_rfl)
 ·exact(show Tryz.prog.wantsStandIn 2=false by kernel_rfl)
 ·exact(show Tryz.prog.wantsStandIn 26=false by kernel_rfl)
 ·exact(show Tryz.prog.wantsStandIn 4=false by kernel_rfl)
theorem card:Rows.UperIntegersCardSaid:=
 Claim7.holds_tied_plain_at .later [] _ _ _ _ said (fun _ h=>by cases h) (by kernel_rfl) (fun _ h=>by cases h) uperIntegers_row_tie rfl ⟨rfl,rfl⟩ (by kernel_rfl) rfl plain (by kernel_rfl)
#print axioms card
end Go.Proofs.YtgjjnbddbbhloaaGreatDoor.uperIntegers
