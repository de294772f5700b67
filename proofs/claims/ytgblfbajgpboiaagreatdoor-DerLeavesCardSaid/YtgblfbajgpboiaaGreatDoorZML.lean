/- oghamlaw15.DerLeaves answers true for every input: the tied card. No condition beyond the row's own. -/
import Derived.Test.YtgblfbajgpboiaaGreatDoorCards
import Derived.Test.YtgblfbajgpboiaaGreatDoorTie
import Derived.WalkKit
import Derived.ProofKit
import Derived.OpenShut
import Derived.Carry
import Derived.LaidMore
import Derived.Lay
import Derived.SevenTiedAt
import Derived.Stop.Joined
import Derived.Test.YtgblfbajgpboiaaGreatDoorQ5
set_option maxRecDepth 100000
set_option maxHeartbeats 0
set_option linter.all false
namespace Go.Proofs.YtgblfbajgpboiaaGreatDoor.derLeaves
open Go.ChangeShapes
open Go Go.Og Go.ChangeShapes Go.WideShapes Go.ChangeAt Go.RowKit
def eOf (q len:Nat) (f:Nat→V):List (Nat × Blk):=if len=0 then [] else [(q,.cells ((List.range len).map f))]
theorem ext_of {R:Ren} {w:World} {q blk off len:Nat} {f:Nat→V} {g:Nat→Value} (hR:R q=some ⟨blk,off,0⟩) (hc:∀i,conc R (f i)=some (g i)∧(g i).oneCell'=true) (h:∀i,i<len→w.cell? ⟨blk,off+i,none⟩=some (g i)):∀id b,Go.Og.look (eOf q len f) id=some b→∃i,R id=some i∧ExtOk R i b w:=by
 unfold eOf
 by_cases h0:len=0
 ·rw[if_pos h0];intro id b hb;cases hb
 ·rw[if_neg h0];exact ext_one hR (ext_list hc h h0)
theorem look_eOf1 {q len:Nat} {f:Nat→V} {X:List (Nat × Blk)} (h:len≠0):lookF (eOf q len f++X) q=some (.cells ((List.range len).map f)):=by
 unfold eOf;rw[if_neg h,lookF_eq];simp[Go.Og.look]
theorem wf_in {n:Int} (h:(Lit.int .i64 n).wf=true):In64i n:=by
 have h3:(decide (IntKind.min .i64≤n)&&decide (n≤IntKind.max .i64))=true:=h
 simp only[Bool.and_eq_true,decide_eq_true_eq]at h3
 exact h3
theorem trod_wf {H:Type} {enc:TypeId × Value→H} {P:Program} {w:World} {t:TypeId} {k:IntKind} {x:Int} {d:DataW H} {ps:List MemPlace} (he:P.underlying t=some (.int k)) (h:DataW.Trod enc P w 0 (fun _=>true) true t (.int k x) d ps):(Lit.int k x).wf=true:=by
 obtain⟨n,h⟩:=h
 cases n with
 | zero=>simp[DataW.trod]at h
 | succ n=>
  unfold DataW.trod at h
  rw[he]at h
  simp only[Value.cells]at h
  split at h<;>simp_all
section
variable {H:Type} {enc:TypeId × Value→H} {P:Program} {w:World} {base:Nat} {spare:Nat→Bool} {held:Bool}
theorem trodAll_five {t t' t'' t3 t4:TypeId} {args:Array Value} {ds:List (DataW H)} {ps:List MemPlace} (h:DataW.TrodAll enc P w base spare held [t,t',t'',t3,t4] args.toList ds ps) :
  ∃v v' v'' v3 v4 d d' d'' d3 d4 p p' p'' p3 p4,args=#[v,v',v'',v3,v4]∧ds=[d,d',d'',d3,d4]∧ps=p++(p'++(p''++(p3++p4)))∧DataW.Trod enc P w base spare held t v d p∧DataW.Trod enc P w base spare held t' v' d' p'∧DataW.Trod enc P w base spare held t'' v'' d'' p''∧DataW.Trod enc P w base spare held t3 v3 d3 p3∧DataW.Trod enc P w base spare held t4 v4 d4 p4:=by
 obtain⟨v,vs,d,ds',p,q,hargs,rfl,rfl,hd,hrest⟩:=trodAll_cons h
 obtain⟨v',vs',d',ds'',p',q',rfl,rfl,rfl,hd',hrest'⟩:=trodAll_cons hrest
 obtain⟨v'',vs'',d'',ds''',p'',q'',rfl,rfl,rfl,hd'',hrest''⟩:=trodAll_cons hrest'
 obtain⟨v3,vs3,d3,ds3,p3,q3,rfl,rfl,rfl,hd3,hrest3⟩:=trodAll_cons hrest''
 obtain⟨v4,vs4,d4,ds4,p4,q4,rfl,rfl,rfl,hd4,hrest4⟩:=trodAll_cons hrest3
 obtain⟨rfl,rfl,rfl⟩:=trodAll_nil hrest4
 exact⟨v,v',v'',v3,v4,d,d',d'',d3,d4,p,p',p'',p3,p4,by cases args;simp_all,rfl,by simp,hd,hd',hd'',hd3,hd4⟩
theorem trodAll_mk5 {t t' t'' t3 t4:TypeId} {v v' v'' v3 v4:Value} {d d' d'' d3 d4:DataW H} {p p' p'' p3 p4:List MemPlace} (h:DataW.Trod enc P w base spare held t v d p) (h':DataW.Trod enc P w base spare held t' v' d' p')
  (h'':DataW.Trod enc P w base spare held t'' v'' d'' p'') (h3:DataW.Trod enc P w base spare held t3 v3 d3 p3) (h4:DataW.Trod enc P w base spare held t4 v4 d4 p4):DataW.TrodAll enc P w base spare held [t,t',t'',t3,t4] [v,v',v'',v3,v4] [d,d',d'',d3,d4] (p++(p'++(p''++(p3++p4)))):=⟨p,p'++(p''++(p3++p4)),h,trodAll_mk4 h' h'' h3 h4,rfl⟩
end
theorem sound3 (E:List (Nat × Blk)):SoundFn Tryz.prog E glob 3 (F3 E (TW E 59) (drawW E (TW E 59)) 600000):=SF3 E (TW E 59) (TW_ok E 59) 600000
theorem bx_sle (E:List (Nat × Blk)):Bx E ⟨100,[]⟩ (.sle 50 0 0 1) []:=⟨fun _=>rfl,rfl,rfl,rfl,fun _=>rfl,fun _ h=>by cases h⟩
theorem walk (x0:Bool) (x1:Int) (x2:Value) (x3:Int) (x4:Bool) (hx2:x2 = .slice none 0 0∨∃blk off len cap,x2 = .slice (some ⟨blk,off,none⟩) len cap) (w:World) (i1:In64i x1)
  (hr:∀blk off len cap,x2 = .slice (some ⟨blk,off,none⟩) len cap→∃B:Nat→Int,∀i,i<len→w.cell? ⟨blk,off+i,none⟩=some (.int .u8 (B i))∧(Lit.int .u8 (B i)).wf=true) :
  Calls Tryz.prog 3 #[.bool x0,.int .i64 x1,x2,.int .i64 x3,.bool x4] w fun e w'=>e = .returned (.bool true)∧RowKit.Below w.heap.size w w':=by
 rcases hx2 with rfl|⟨blk0,off0,len0,cap0,rfl⟩
 ·exact law_belowE (sound3 []) globLt (by decide:2≤100) [] [.bool x0,.int .i64 x1,.nils,.int .i64 x3,.bool x4] [.bool x0,.int .i64 x1,.slice none 0 0,.int .i64 x3,.bool x4] w (fun id i h=>by simp[Go.Og.look]at h) (fun id b hb=>by simp[Go.Og.look]at hb) (by simp[concs,conc,argR,Go.Og.look])
   (dl_run x0 x4 i1 x3 (nils_bx [] _))
 ·by_cases h0:len0=0
  ·subst h0
   exact law_belowE (sound3 []) globLt (by decide:2≤100) [(50,⟨blk0,off0,cap0⟩)] [.bool x0,.int .i64 x1,.sle 50 0 0 1,.int .i64 x3,.bool x4] [.bool x0,.int .i64 x1,.slice (some ⟨blk0,off0,none⟩) 0 cap0,.int .i64 x3,.bool x4] w
    (fun id i h=>by simp only[Go.Og.look]at h;split at h<;>first | (cases h;done) | (rename_i he;have:=Nat.eq_of_beq_eq_true he;omega))
    (fun id b hb=>by simp[Go.Og.look]at hb) (by simp[concs,conc,argR,Go.Og.look,BI.cap,Addr.add])
    (dl_run x0 x4 i1 x3 (bx_sle []))
  ·obtain⟨A,hA⟩:=hr blk0 off0 len0 cap0 rfl
   exact law_belowE (sound3 (eOf 50 len0 fun i => .int .u8 (A i))) globLt (by decide:2≤100) [(50,⟨blk0,off0,0⟩)] [.bool x0,.int .i64 x1,.sl 50 0 len0 (.ex cap0),.int .i64 x3,.bool x4] [.bool x0,.int .i64 x1,.slice (some ⟨blk0,off0,none⟩) len0 cap0,.int .i64 x3,.bool x4] w
    (fun id i h=>by simp only[Go.Og.look]at h;split at h<;>first | (cases h;done) | (rename_i he;have:=Nat.eq_of_beq_eq_true he;omega))
    (ext_of (g:=fun i => .int .u8 (A i)) rfl (fun i=>⟨rfl,rfl⟩) (fun i hi=>(hA i hi).1)) (by simp[concs,conc,argR,Go.Og.look])
    (dl_run x0 x4 i1 x3 (bx_arg (fun h=>by have:=look_eOf1 (q:=50) (f:=fun i=>V.int .u8 (A i)) (X:=[]) h;rwa [List.append_nil]at this) h0))
theorem laidOut:laidOutB Tryz.prog=true:=by kernel_rfl
theorem own:ownKnob Tryz.prog.godebug=none:=by kernel_rfl
theorem lifted (os:Os) (started:os.Started) (H:Type) (enc:TypeId × Value→H) :
    ReturnsInHanded {} Tryz.checked os 3 .any (fun w args=>(Rows.derLeavesSpec.pre enc Tryz.prog Tryz.f3 Rows.derLeavesRow.domain false w args∧laidMetH Tryz.prog Rows.derLeavesRow.laid w)∧sizedMet enc Tryz.prog Tryz.f3 (OpenSpec.ofChange Rows.derLeavesSpec) false w args)
      (Rows.derLeavesSpec.post enc Tryz.prog Tryz.f3 false true false false):=by
  refine returnsInHanded_of_change_and (C:=Tryz.checked) (X:=fun w _=>laidMetH Tryz.prog Rows.derLeavesRow.laid w) (fun _ _ _ hh h=>h.of_heap hh) own started (by kernel_rfl) Tryz.func3
    (ChangeSpec.witness_shaped (enc:=enc) (C:=Tryz.checked) (os:=os) (X:=fun w _=>laidMetH Tryz.prog Rows.derLeavesRow.laid w) false (World.laidAll Tryz.prog os Rows.derLeavesRow.laid) #[.bool false,.int .i64 0,.slice none 0 0,.int .i64 0,.bool false] 8 (World.laidAll_os _ _ _)
      (World.shaped_of_ZipB (by kernel_rfl) (by kernel_rfl)) (by kernel_rfl) (by kernel_rfl) (by kernel_rfl)
      (by rw[MakeChecks.laidMetH_plain _ _ _ (by kernel_rfl)];exact laidMet_laidAll _ (by kernel_rfl) (by kernel_rfl))) ?_
  intro W base args ds gs before hval0 hW hc _ hL _
  have hval:∀(j:Nat) t v,Tryz.f3.params[j]? = some t→args[j]? = some v→Value.okWide Tryz.prog W .any base t v:=hval0
  have hW':=hW
  obtain⟨p,q,hA0,hV,rfl,_,_⟩:=hW
  have hA:DataW.TrodAll enc Tryz.prog W 0 (fun _=>true) true Tryz.f3.params.toList args.toList ds p:=hA0
  have hlt:∀y∈p,y.block<W.heap.size:=DataW.TrodAll.lt hA
  rw[Tryz.params3]at hA hval
  obtain⟨v0,v1,x2,v3,v4,d0,d1,d2,d3,d4,p0,p1,p2,p3,p4,rfl,rfl,rfl,h0,h1,h2,h3,h4⟩:=trodAll_five hA
  obtain⟨rfl,rfl⟩:=trodVars_none hV
  obtain⟨x0,rfl⟩:=okWide_bool Tryz.underlying4 (hval 0 4 v0 rfl rfl)
  obtain⟨x1,rfl⟩:=cell_int Tryz.underlying2 (by have h:=hval 1 2 v1 rfl rfl;unfold Value.okWide at h;rw[Tryz.underlying2]at h;exact h)
  have hx2:=cell_slice Tryz.underlying22 (by have h:=hval 2 22 x2 rfl rfl;unfold Value.okWide at h;rw[Tryz.underlying22]at h;exact h)
  obtain⟨x3,rfl⟩:=cell_int Tryz.underlying3 (by have h:=hval 3 3 v3 rfl rfl;unfold Value.okWide at h;rw[Tryz.underlying3]at h;exact h)
  obtain⟨x4,rfl⟩:=okWide_bool Tryz.underlying4 (hval 4 4 v4 rfl rfl)
  simp only[List.append_nil]at hW'
  refine(walk x0 x1 x2 x3 x4 hx2 W (wf_in (trod_wf Tryz.underlying2 h1)) (fun blk off len cap e=>by subst e;exact row_ints Tryz.underlying22 Tryz.underlying5 (by kernel_rfl) h2)).mono fun e W' ⟨he,hb⟩=>?_
  subst he
  refine⟨_,rfl,_,_,_,[],p0++(p1++(p2++(p3++p4))),[],hW',?_,?_,?_,World.keptBut_mono (fun _ f=>f.elim) (hb.frame (fun _=>False)),fun h=>by cases h⟩
  · exact trodAll_mk1 (shut_bool Tryz.underlying4 true)
  · exact trodAll_mk5 (Below.trod laidOut (by kernel_rfl) (of_decide_eq_true (by kernel_rfl)) h0 hb (fun y hy=>hlt y (by simp[hy]))) (Below.trod laidOut (by kernel_rfl) (of_decide_eq_true (by kernel_rfl)) h1 hb (fun y hy=>hlt y (by simp[hy]))) (Below.trod laidOut (by kernel_rfl) (of_decide_eq_true (by kernel_rfl)) h2 hb (fun y hy=>hlt y (by simp[hy]))) (Below.trod laidOut (by kernel_rfl) (of_decide_eq_true (by kernel_rfl)) h3 hb (fun y hy=>hlt y (by simp[hy]))) (Below.trod laidOut (by kernel_rfl) (of_decide_eq_true (by kernel_rfl)) h4 hb (fun y hy=>hlt y (by simp[hy])))
  · rfl
theorem said:Rows.DerLeavesSaid:=
 OpenClaim.holds_of_wide 3 Tryz.f3 rfl rfl rfl rfl rfl rfl rfl ⟨rfl,rfl,rfl,rfl,rfl⟩ rfl rfl rfl rfl rfl (by kernel_rfl) Tryz.func3 (by unfold joinedFacts;rw[k_inPlace,k_unfollowed,k_recurses,k_varsNamed];kernel_rfl)
  (of_decide_eq_true (by kernel_rfl)) (by unfold Func.isWrapper;first | (rw[if_pos (by decide +kernel)];kernel_rfl) | (rw[if_neg (by decide +kernel)];exact⟨rfl,rfl⟩))
  (fun os started H enc _=>lifted os started H enc)
theorem plain (f:FuncId) (fn:Func) (hf:Tryz.pinned.checked.prog.funcNamed Rows.derLeavesRow.func=some f) (hfn:Tryz.pinned.checked.prog.funcs[f]? = some fn) :
  false=Tryz.pinned.checked.prog.looks []∧∀(j:Nat) t,fn.params[j]? = some t→Tryz.pinned.checked.prog.wantsStandIn t=false:=by
 obtain rfl:f=3:=Option.some.inj ((show Tryz.prog.funcNamed Rows.derLeavesRow.func=some 3 by kernel_rfl).symm.trans hf) |>.symm
 obtain rfl:fn=Tryz.f3:=(Option.some.inj (Tryz.func3.symm.trans hfn)).symm
 refine⟨by kernel_rfl,fun j t ht=>?_⟩
 rw[Tryz.params3]at ht
 have hm:=Array.mem_of_getElem? ht
 simp only[List.mem_toArray,List.mem_cons,List.not_mem_nil,or_false]at hm
 rcases hm with rfl|rfl|rfl|rfl|rfl
 ·exact(show Tryz.prog.wantsStandIn 4=false by kernel_rfl)
 ·exact(show Tryz.prog.wantsStandIn 2=false by kernel_rfl)
 ·exact(show Tryz.prog.wantsStandIn 22=false by kernel_rfl)
 ·exact(show Tryz.prog.wantsStandIn 3=false by kernel_rfl)
 ·exact(show Tryz.prog.wantsStandIn 4=false by kernel_rfl)
theorem card:Rows.DerLeavesCardSaid:=
 Claim7.holds_tied_plain_at .later [] _ _ _ _ said (fun _ h=>by cases h) (by kernel_rfl) (fun _ h=>by cases h) derLeaves_row_tie rfl ⟨rfl,rfl⟩ (by kernel_rfl) rfl plain (by kernel_rfl)
#print axioms card
end Go.Proofs.YtgblfbajgpboiaaGreatDoor.derLeaves
