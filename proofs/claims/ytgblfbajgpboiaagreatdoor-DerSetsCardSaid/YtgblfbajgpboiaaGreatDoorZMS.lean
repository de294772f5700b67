/- oghamlaw15.DerSets answers true for every input: the tied card. No condition beyond the row's own. -/
import Derived.Test.YtgblfbajgpboiaaGreatDoorCards
import Derived.Test.YtgblfbajgpboiaaGreatDoorTie
import Derived.WalkKit
import Derived.ProofKit
import Derived.OpenShut
import Derived.Carry
import Derived.LaidMore
import Derived.Lay
import Derived.SevenTiedAt
import Derived.Stop.Joined
import Derived.Test.YtgblfbajgpboiaaGreatDoorQ6
open Nat renaming zero_add -> BA,eq_of_beq_eq_true -> Bo,mul_one -> B8,not_lt_zero -> Cw
open List renaming getElem?_map -> Aw,mem_cons -> Ax,range -> Da,append_nil -> EC,not_mem_nil -> E5,getElem?_range -> om
open Option renaming some -> AQ
open Array renaming mem_of_getElem? -> KI
set_option maxRecDepth 100000
set_option maxHeartbeats 0
set_option linter.all false
namespace Go.Proofs.YtgblfbajgpboiaaGreatDoor.derSets
open Go Go.Og Go.ChangeShapes Go.WideShapes Go.ChangeAt Go.RowKit
def yB (q len:Nat) (f:Nat->V):EB:=if len=0 then [] else [(q,.cells ((Da len).map f))]
theorem xq {R:Cz} {w:World} {q blk off len:Nat} {f:Nat->V} {g:Nat->Value} (hR:R q=some ⟨blk,off,0⟩) (hc:∀i,Ao R (f i)=some (g i)/\(g i).oneCell'=true) (h:∀i,i<len->w.cell? ⟨blk,off+i,none⟩=some (g i)):∀id b,Go.Og.look (yB q len f) id=some b->∃i,R id=some i/\Ip R i b w:=by
 unfold yB
 by_cases h0:len=0
 ·rw[if_pos h0];intro id b hb;cases hb
 ·rw[if_neg h0];exact qu hR (iw hc h h0)
theorem dO {q len:Nat} {f:Nat->V} {X:EB} (h:len≠0):BU (yB q len f++X) q=some (.cells ((Da len).map f)):=by
 unfold yB;rw[if_neg h,A5];simp[Go.Og.look]
theorem gM (E:EB):Ce Tryz.prog E glob 4 (F4 E (TW E 59) (AT E (TW E 59)) 600000):=SF4 E (TW E 59) (AEg E 59) 600000
theorem rz:ArI [] .nils 0 (fun _=>0):=⟨fun _=>rfl,fun _ _ _ h=>absurd h (Cw _)⟩
theorem yQ {len cap:Nat} {f:Nat->Int}:ArI (yB 50 len fun i => .int .i64 (f i)) (.sl 50 0 len (.ex cap)) len f:=by
 refine⟨fun _=>rfl,fun U i J hi hn=>?_⟩
 rw[Cb hi]
 show EG _ U 50 (0+i*1) J=_
 unfold EG gh
 rw[hn]
 have h:BU (yB 50 len fun i=>V.int .i64 (f i)) 50=some (.cells ((Da len).map fun i=>V.int .i64 (f i))):=by
  have:=dO (q:=50) (f:=fun i=>V.int .i64 (f i)) (X:=[]) (show len≠0 by omega)
  rwa [EC]at this
 simp only[h]
 refine OA ?_
 rw[L6,BA,B8,Aw,om hi];rfl
theorem AJ7 (x0:Value) (x1:Int) (hx0:x0 = .slice none 0 0\/∃blk off len cap,x0 = .slice (some ⟨blk,off,none⟩) len cap) (w:World)
  (hr:∀blk off len cap,x0 = .slice (some ⟨blk,off,none⟩) len cap->∃B:Nat->Int,∀i,i<len->w.cell? ⟨blk,off+i,none⟩=some (.int .i64 (B i))/\(Lit.int .i64 (B i)).wf=true) :
  Calls Tryz.prog 4 #[x0,.int .i64 x1] w fun e w'=>e = .returned (.bool true)/\RowKit.Below w.heap.size w w':=by
 rcases hx0 with rfl|⟨blk0,off0,len0,cap0,rfl⟩
 ·exact Ow (gM []) Wt (by decide:2<=100) [] [.nils,.int .i64 x1] [.slice none 0 0,.int .i64 x1] w (fun id i h=>by simp[Go.Og.look]at h) (fun id b hb=>by simp[Go.Og.look]at hb) (by simp[A1,Ao,PL,Go.Og.look])
   (jB rz x1)
 ·obtain⟨A,hA⟩:=hr blk0 off0 len0 cap0 rfl
  exact Ow (gM (yB 50 len0 fun i => .int .i64 (A i))) Wt (by decide:2<=100) [(50,⟨blk0,off0,0⟩)] [.sl 50 0 len0 (.ex cap0),.int .i64 x1] [.slice (some ⟨blk0,off0,none⟩) len0 cap0,.int .i64 x1] w
   (fun id i h=>by simp only[Go.Og.look]at h;split at h<;>first | (cases h;done) | (rename_i he;have:=Bo he;omega))
   (xq (g:=fun i => .int .i64 (A i)) rfl (fun i=>⟨rfl,rfl⟩) (fun i hi=>(hA i hi).1)) (by simp[A1,Ao,PL,Go.Og.look])
   (jB yQ x1)
theorem Yt:laidOutB Tryz.prog=true:=by kernel_rfl
theorem own:ownKnob Tryz.prog.godebug=none:=by kernel_rfl
theorem xZ (os:Os) (started:os.Started) (H:Type) (enc:TypeId × Value->H) :
    ReturnsInHanded {} Tryz.checked os 4 .any (fun w args=>(Rows.derSetsSpec.pre enc Tryz.prog Tryz.f4 Rows.derSetsRow.domain false w args/\laidMetH Tryz.prog Rows.derSetsRow.laid w)/\sizedMet enc Tryz.prog Tryz.f4 (OpenSpec.ofChange Rows.derSetsSpec) false w args)
      (Rows.derSetsSpec.post enc Tryz.prog Tryz.f4 false true false false):=by
  refine returnsInHanded_of_change_and (C:=Tryz.checked) (X:=fun w _=>laidMetH Tryz.prog Rows.derSetsRow.laid w) (fun _ _ _ hh h=>h.of_heap hh) own started (by kernel_rfl) Tryz.func4
    (ChangeSpec.witness_shaped (enc:=enc) (C:=Tryz.checked) (os:=os) (X:=fun w _=>laidMetH Tryz.prog Rows.derSetsRow.laid w) false (World.laidAll Tryz.prog os Rows.derSetsRow.laid) #[.slice none 0 0,.int .i64 0] 8 (World.laidAll_os _ _ _)
      (World.shaped_of_ZipB (by kernel_rfl) (by kernel_rfl)) (by kernel_rfl) (by kernel_rfl) (by kernel_rfl)
      (by rw[MakeChecks.laidMetH_plain _ _ _ (by kernel_rfl)];exact laidMet_laidAll _ (by kernel_rfl) (by kernel_rfl))) ?_
  intro W base args ds gs before hval0 hW hc _ hL _
  have hval:∀(j:Nat) t v,Tryz.f4.params[j]? = some t->args[j]? = some v->Value.okWide Tryz.prog W .any base t v:=hval0
  have hW':=hW
  obtain⟨p,q,hA0,hV,rfl,_,_⟩:=hW
  have hA:DataW.TrodAll enc Tryz.prog W 0 (fun _=>true) true Tryz.f4.params.toList args.toList ds p:=hA0
  have hlt:∀y∈p,y.block<W.heap.size:=DataW.TrodAll.lt hA
  rw[Tryz.params4]at hA hval
  obtain⟨x0,v1,d0,d1,p0,p1,rfl,rfl,rfl,h0,h1⟩:=trodAll_two hA
  obtain⟨rfl,rfl⟩:=trodVars_none hV
  have hx0:=W6 Tryz.underlying28 (by have h:=hval 0 28 x0 rfl rfl;unfold Value.okWide at h;rw[Tryz.underlying28]at h;exact h)
  obtain⟨x1,rfl⟩:=jW Tryz.underlying3 (by have h:=hval 1 3 v1 rfl rfl;unfold Value.okWide at h;rw[Tryz.underlying3]at h;exact h)
  simp only[EC]at hW'
  refine(AJ7 x0 x1 hx0 W (fun blk off len cap e=>by subst e;exact gZ Tryz.underlying28 Tryz.underlying3 (by kernel_rfl) h0)).mono fun e W' ⟨he,hb⟩=>?_
  subst he
  refine⟨_,rfl,_,_,_,[],p0++p1,[],hW',?_,?_,?_,World.keptBut_mono (fun _ f=>f.elim) (hb.frame (fun _=>False)),fun h=>by cases h⟩
  · exact trodAll_mk1 (shut_bool Tryz.underlying4 true)
  · exact trodAll_mk2 (Below.trod Yt (by kernel_rfl) (of_decide_eq_true (by kernel_rfl)) h0 hb (fun y hy=>hlt y (by simp[hy]))) (Below.trod Yt (by kernel_rfl) (of_decide_eq_true (by kernel_rfl)) h1 hb (fun y hy=>hlt y (by simp[hy])))
  · rfl
theorem AKI:Rows.DerSetsSaid:=
 OpenClaim.holds_of_wide 4 Tryz.f4 rfl rfl rfl rfl rfl rfl rfl ⟨rfl,rfl,rfl,rfl,rfl⟩ rfl rfl rfl rfl rfl (by kernel_rfl) Tryz.func4 (by unfold joinedFacts;rw[dR,Sb,Wq,Up];kernel_rfl)
  (of_decide_eq_true (by kernel_rfl)) (by unfold Func.isWrapper;first | (rw[if_pos (by decide +kernel)];kernel_rfl) | (rw[if_neg (by decide +kernel)];exact⟨rfl,rfl⟩))
  (fun os started H enc _=>xZ os started H enc)
theorem Ol (f:FuncId) (fn:Func) (hf:Tryz.pinned.checked.prog.funcNamed Rows.derSetsRow.func=some f) (hfn:Tryz.pinned.checked.prog.funcs[f]? = some fn) :
  false=Tryz.pinned.checked.prog.looks []/\∀(j:Nat) t,fn.params[j]? = some t->Tryz.pinned.checked.prog.wantsStandIn t=false:=by
 obtain rfl:f=4:=AQ.inj ((show Tryz.prog.funcNamed Rows.derSetsRow.func=some 4 by kernel_rfl).symm.trans hf) |>.symm
 obtain rfl:fn=Tryz.f4:=(AQ.inj (Tryz.func4.symm.trans hfn)).symm
 refine⟨by kernel_rfl,fun j t ht=>?_⟩
 rw[Tryz.params4]at ht
 have hm:=KI ht
 simp only[List.mem_toArray,Ax,E5,or_false]at hm
 rcases hm with rfl|rfl
 ·exact(show Tryz.prog.wantsStandIn 28=false by kernel_rfl)
 ·exact(show Tryz.prog.wantsStandIn 3=false by kernel_rfl)
theorem card:Rows.DerSetsCardSaid:=
 Claim7.holds_tied_plain_at .later [] _ _ _ _ AKI (fun _ h=>by cases h) (by kernel_rfl) (fun _ h=>by cases h) derSets_row_tie rfl ⟨rfl,rfl⟩ (by kernel_rfl) rfl Ol (by kernel_rfl)
#print axioms card
end Go.Proofs.YtgblfbajgpboiaaGreatDoor.derSets
