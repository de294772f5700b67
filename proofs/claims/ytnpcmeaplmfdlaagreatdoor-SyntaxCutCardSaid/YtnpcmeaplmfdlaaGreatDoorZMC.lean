/- oghamlaw05.SyntaxCut answers true for every input: the tied card. No condition beyond the row's own. -/
import Derived.Test.YtnpcmeaplmfdlaaGreatDoorCards
import Derived.Test.YtnpcmeaplmfdlaaGreatDoorTie
import Derived.WalkKit
import Derived.ProofKit
import Derived.OpenShut
import Derived.Carry
import Derived.LaidMore
import Derived.Lay
import Derived.SevenTiedAt
import Derived.Stop.Joined
import Derived.Test.YtnpcmeaplmfdlaaGreatDoorY0
open Int renaming ofNat -> AA
open List renaming mem_cons -> BK,mem_singleton -> B0,append_nil -> CZ,not_mem_nil -> D7
open Option renaming some -> AP
open Array renaming mem_of_getElem? -> Ht
set_option maxRecDepth 100000
set_option maxHeartbeats 0
set_option linter.all false
namespace Go.Proofs.YtnpcmeaplmfdlaaGreatDoor.syntaxCut
open Go Go.Og Go.ChangeShapes Go.WideShapes Go.ChangeAt Go.RowKit
theorem nV{W:World}(h:laidMetH Tryz.prog Rows.syntaxCutRow.laid W):(∀i,i<256->W.cell? ⟨0,0+i,none⟩=some (.int .u8 (AA (EP.getD i 0))))/\(∀i,i<32->W.cell? ⟨1,0+i,none⟩=some (.int .u8 (AA (E9.getD i 0))))/\∃a s,W.cell? ⟨3,0,none⟩=some (.iface 164 (.pointer (some a)))/\W.cell? a=some (.string s):=by
 refine⟨Lj ?_,On ?_,RJ (text:=[118,97,108,117,101,32,111,117,116,32,111,102,32,114,97,110,103,101]) ?_⟩
 ·have h1:=h.filter (λx=>x.1 == "unicode/utf8.first")
  have e:(Rows.syntaxCutRow.laid.filter λx=>x.1 == "unicode/utf8.first")=[("unicode/utf8.first",Lib.tabData .u8 (EP.map AA))]:=by kernel_rfl
  rw[e,MakeChecks.laidMetH_plain _ _ _ (by kernel_rfl)]at h1
  exact h1
 ·have h1:=h.filter (λx=>x.1 == "unicode/utf8.acceptRanges")
  have e:(Rows.syntaxCutRow.laid.filter λx=>x.1 == "unicode/utf8.acceptRanges")=[("unicode/utf8.acceptRanges",oW)]:=by kernel_rfl
  rw[e,MakeChecks.laidMetH_plain _ _ _ (by kernel_rfl)]at h1
  exact Lib.laidMet.reads h1 (B0.2 rfl)
 ·have h1:=h.filter (λx=>x.1 == "strconv.ErrRange")
  have e:(Rows.syntaxCutRow.laid.filter λx=>x.1 == "strconv.ErrRange")=[("strconv.ErrRange",.iface "*errors.errorString" (.ptr (.agg [.lit (.string [118,97,108,117,101,32,111,117,116,32,111,102,32,114,97,110,103,101])])))]:=by kernel_rfl
  rw[e,MakeChecks.laidMetH_plain _ _ _ (by kernel_rfl)]at h1
  exact h1
theorem Y0(x0:ByteArray)(x1:Int)(w:World)(h:laidMetH Tryz.prog Rows.syntaxCutRow.laid w):Calls Tryz.prog 4 #[.string x0,.int .i64 x1] w λe w'=>e = .returned (.bool true)/\RowKit.Below w.heap.size w w':=by
 obtain⟨h0,h1,a,s,h3,ha⟩:=nV h
 exact kZ x0 x1 w h0 h1 h3 ha
theorem P8:laidOutB Tryz.prog=true:=by kernel_rfl
theorem own:ownKnob Tryz.prog.godebug=none:=by kernel_rfl
theorem ZF(os:Os)(started:os.Started)(H:Type)(enc:TypeId × Value->H):
    ReturnsInHanded {} Tryz.checked os 4 .any (λw args=>(Rows.syntaxCutSpec.pre enc Tryz.prog Tryz.f4 Rows.syntaxCutRow.domain false w args/\laidMetH Tryz.prog Rows.syntaxCutRow.laid w)/\sizedMet enc Tryz.prog Tryz.f4 (OpenSpec.ofChange Rows.syntaxCutSpec) false w args)
      (Rows.syntaxCutSpec.post enc Tryz.prog Tryz.f4 false true false false):=by
  refine returnsInHanded_of_change_and (C:=Tryz.checked) (X:=λw _=>laidMetH Tryz.prog Rows.syntaxCutRow.laid w) (λ_ _ _ hh h=>h.of_heap hh) own started (by kernel_rfl) Tryz.func4
    (ChangeSpec.witness_shaped (enc:=enc) (C:=Tryz.checked) (os:=os) (X:=λw _=>laidMetH Tryz.prog Rows.syntaxCutRow.laid w) false (World.laidAll Tryz.prog os Rows.syntaxCutRow.laid) #[.string ⟨#[]⟩,.int .i64 0] 8 (World.laidAll_os _ _ _)
      (World.shaped_of_ZipB (by kernel_rfl) (by kernel_rfl)) (by kernel_rfl) (by kernel_rfl) (by kernel_rfl)
      (by rw[MakeChecks.laidMetH_plain _ _ _ (by kernel_rfl)];exact laidMet_laidAll _ (by kernel_rfl) (by kernel_rfl))) ?_
  intro W base args ds gs before hval0 hW hc _ hL _
  have hval:∀(j:Nat) t v,Tryz.f4.params[j]? = some t->args[j]? = some v->Value.okWide Tryz.prog W .any base t v:=hval0
  have hW':=hW
  obtain⟨p,q,hA0,hV,rfl,_,_⟩:=hW
  have hA:DataW.TrodAll enc Tryz.prog W 0 (λ_=>true) true Tryz.f4.params.toList args.toList ds p:=hA0
  have hlt:∀y∈p,y.block<W.heap.size:=DataW.TrodAll.lt hA
  rw[Tryz.params4]at hA hval
  obtain⟨v0,v1,d0,d1,p0,p1,rfl,rfl,rfl,h0,h1⟩:=trodAll_two hA
  obtain⟨rfl,rfl⟩:=trodVars_none hV
  obtain⟨x0,rfl⟩:=XQ Tryz.underlying9 (by have h:=hval 0 9 v0 rfl rfl;unfold Value.okWide at h;rw[Tryz.underlying9]at h;exact h)
  obtain⟨x1,rfl⟩:=oG Tryz.underlying3 (by have h:=hval 1 3 v1 rfl rfl;unfold Value.okWide at h;rw[Tryz.underlying3]at h;exact h)
  simp only[CZ]at hW'
  refine(Y0 x0 x1 W hL).mono λe W' ⟨he,hb⟩=>?_
  subst he
  refine⟨_,rfl,_,_,_,[],p0++p1,[],hW',?_,?_,?_,World.keptBut_mono (λ_ f=>f.elim) (hb.frame (λ_=>False)),λh=>by cases h⟩
  · exact trodAll_mk1 (shut_bool Tryz.underlying4 true)
  · exact trodAll_mk2 (Below.trod P8 (by kernel_rfl) (of_decide_eq_true (by kernel_rfl)) h0 hb (λy hy=>hlt y (by simp[hy]))) (Below.trod P8 (by kernel_rfl) (of_decide_eq_true (by kernel_rfl)) h1 hb (λy hy=>hlt y (by simp[hy])))
  · rfl
theorem AAy:Rows.SyntaxCutSaid:=
 OpenClaim.holds_of_wide 4 Tryz.f4 rfl rfl rfl rfl rfl rfl rfl ⟨rfl,rfl,rfl,rfl,rfl⟩ rfl rfl rfl rfl rfl (by kernel_rfl) Tryz.func4 (by kernel_rfl)
  (of_decide_eq_true (by kernel_rfl)) (by unfold Func.isWrapper;first | (rw[if_pos (by decide +kernel)];kernel_rfl) | (rw[if_neg (by decide +kernel)];exact⟨rfl,rfl⟩))
  (λos started H enc _=>ZF os started H enc)
theorem S3(f:FuncId)(fn:Func)(hf:Tryz.pinned.checked.prog.funcNamed Rows.syntaxCutRow.func=some f)(hfn:Tryz.pinned.checked.prog.funcs[f]? = some fn):
  true=Tryz.pinned.checked.prog.looks []/\∀(j:Nat) t,fn.params[j]? = some t->Tryz.pinned.checked.prog.wantsStandIn t=false:=by
 obtain rfl:f=4:=AP.inj ((show Tryz.prog.funcNamed Rows.syntaxCutRow.func=some 4 by kernel_rfl).symm.trans hf) |>.symm
 obtain rfl:fn=Tryz.f4:=(AP.inj (Tryz.func4.symm.trans hfn)).symm
 refine⟨by kernel_rfl,λj t ht=>?_⟩
 rw[Tryz.params4]at ht
 have hm:=Ht ht
 simp only[List.mem_toArray,BK,D7,or_false]at hm
 rcases hm with rfl|rfl
 ·exact(show Tryz.prog.wantsStandIn 9=false by kernel_rfl)
 ·exact(show Tryz.prog.wantsStandIn 3=false by kernel_rfl)
theorem card:Rows.SyntaxCutCardSaid:=
 Claim7.holds_tied_plain_at .later [] _ _ _ _ AAy (λ_ h=>by cases h) (by kernel_rfl) (λ_ h=>by cases h) syntaxCut_row_tie rfl ⟨rfl,rfl⟩ (by kernel_rfl) rfl S3 (by kernel_rfl)
#print axioms card
end Go.Proofs.YtnpcmeaplmfdlaaGreatDoor.syntaxCut
