/- oghamlaw19.UperChoices answers true for every input: the tied card. No condition beyond the row's own. -/
import Derived.Test.YtpbligmafbkeaaaGreatDoorCards
import Derived.Test.YtpbligmafbkeaaaGreatDoorTie
import Derived.WalkKit
import Derived.ProofKit
import Derived.OpenShut
import Derived.Carry
import Derived.LaidMore
import Derived.Lay
import Derived.SevenTiedAt
import Derived.Stop.Joined
import Derived.Test.YtpbligmafbkeaaaGreatDoorQ7
open Nat renaming zero_add -> BV,mul_one -> CB,eq_of_beq_eq_true -> CJ,not_lt_zero -> DH
open List renaming getElem?_map -> As,mem_cons -> A0,append_nil -> BP,range -> CW,not_mem_nil -> FU,getElem?_range -> xn
open Option renaming some -> AY
open Array renaming mem_of_getElem? -> Kw
set_option maxRecDepth 100000
set_option maxHeartbeats 0
set_option linter.all false
namespace Go.Proofs.YtpbligmafbkeaaaGreatDoor.uperChoices
open Go Go.Og Go.ChangeShapes Go.WideShapes Go.ChangeAt Go.RowKit
def eOf(q len:Nat)(f:Nat->V):EB:=if len=0 then [] else [(q,.cells ((CW len).map f))]
theorem AFK{R:DN}{w:World}{q blk off len:Nat}{f:Nat->V}{g:Nat->Value}(hR:R q=some ⟨blk,off,0⟩)(hc:∀i,Av R (f i)=some (g i)/\(g i).oneCell'=true)(h:∀i,i<len->w.cell? ⟨blk,off+i,none⟩=some (g i)):∀id b,Go.Og.look (eOf q len f) id=some b->∃i,R id=some i/\JS R i b w:=by
 unfold eOf
 by_cases h0:len=0
 ·rw[if_pos h0];intro id b hb;cases hb
 ·rw[if_neg h0];exact zb hR (qV hc h h0)
theorem lF{q len:Nat}{f:Nat->V}{X:EB}(h:len≠0):BX (eOf q len f++X) q=some (.cells ((CW len).map f)):=by
 unfold eOf;rw[if_neg h,BG];simp[Go.Og.look]
theorem pI(E:EB):Cr Tryz.prog E glob 3 (F3 E (TW E 59) (AV E (TW E 59)) 600000):=SF3 E (TW E 59) (AMn E 59) 600000
theorem AAB:ArI [] .h 0 (λ_=>0):=⟨λ_=>rfl,λ_ _ _ h=>absurd h (DH _)⟩
theorem AFd{len cap:Nat}{f:Nat->Int}:ArI (eOf 50 len λi => .int .i64 (f i)) (.D 50 0 len (.ex cap)) len f:=by
 refine⟨λ_=>rfl,λU i J hi hn=>?_⟩
 rw[CC hi]
 show DF _ U 50 (0+i*1) J=_
 unfold DF xg
 rw[hn]
 have h:BX (eOf 50 len λi=>V.int .i64 (f i)) 50=some (.cells ((CW len).map λi=>V.int .i64 (f i))):=by
  have:=lF (q:=50) (f:=λi=>V.int .i64 (f i)) (X:=[]) (show len≠0 by omega)
  rwa [BP]at this
 simp only[h]
 refine PE ?_
 rw[Mg,BV,CB,As,xn hi];rfl
theorem ATt(x0:Value)(x1 x2:Int)(hx0:x0 = .slice none 0 0\/∃blk off len cap,x0 = .slice (some ⟨blk,off,none⟩) len cap)(w:World)
  (hr:∀blk off len cap,x0 = .slice (some ⟨blk,off,none⟩) len cap->∃B:Nat->Int,∀i,i<len->w.cell? ⟨blk,off+i,none⟩=some (.int .i64 (B i))/\(Lit.int .i64 (B i)).wf=true) :
  Calls Tryz.prog 3 #[x0,.int .i64 x1,.int .i64 x2] w λe w'=>e = .returned (.bool true)/\RowKit.Below w.heap.size w w':=by
 rcases hx0 with rfl|⟨blk0,off0,len0,cap0,rfl⟩
 ·exact QK (pI []) Zd (by decide:2<=100) [] [.h,.int .i64 x1,.int .i64 x2] [.slice none 0 0,.int .i64 x1,.int .i64 x2] w (λid i h=>by simp[Go.Og.look]at h) (λid b hb=>by simp[Go.Og.look]at hb) (by simp[BF,Av,Qi,Go.Og.look])
   (oO AAB x1 x2)
 ·obtain⟨A,hA⟩:=hr blk0 off0 len0 cap0 rfl
  exact QK (pI (eOf 50 len0 λi => .int .i64 (A i))) Zd (by decide:2<=100) [(50,⟨blk0,off0,0⟩)] [.D 50 0 len0 (.ex cap0),.int .i64 x1,.int .i64 x2] [.slice (some ⟨blk0,off0,none⟩) len0 cap0,.int .i64 x1,.int .i64 x2] w
   (λid i h=>by simp only[Go.Og.look]at h;split at h<;>first | (cases h;done) | (rename_i he;have:=CJ he;omega))
   (AFK (g:=λi => .int .i64 (A i)) rfl (λi=>⟨rfl,rfl⟩) (λi hi=>(hA i hi).1)) (by simp[BF,Av,Qi,Go.Og.look])
   (oO AFd x1 x2)
theorem UC:laidOutB Tryz.prog=true:=by kernel_rfl
theorem own:ownKnob Tryz.prog.godebug=none:=by kernel_rfl
theorem AE5(os:Os)(started:os.Started)(H:Type)(enc:TypeId × Value->H):
    ReturnsInHanded {} Tryz.checked os 3 .any (λw args=>(Rows.uperChoicesSpec.pre enc Tryz.prog Tryz.f3 Rows.uperChoicesRow.domain false w args/\laidMetH Tryz.prog Rows.uperChoicesRow.laid w)/\sizedMet enc Tryz.prog Tryz.f3 (OpenSpec.ofChange Rows.uperChoicesSpec) false w args)
      (Rows.uperChoicesSpec.post enc Tryz.prog Tryz.f3 false true false false):=by
  refine returnsInHanded_of_change_and (C:=Tryz.checked) (X:=λw _=>laidMetH Tryz.prog Rows.uperChoicesRow.laid w) (λ_ _ _ hh h=>h.of_heap hh) own started (by kernel_rfl) Tryz.func3
    (ChangeSpec.witness_shaped (enc:=enc) (C:=Tryz.checked) (os:=os) (X:=λw _=>laidMetH Tryz.prog Rows.uperChoicesRow.laid w) false (World.laidAll Tryz.prog os Rows.uperChoicesRow.laid) #[.slice none 0 0,.int .i64 0,.int .i64 0] 8 (World.laidAll_os _ _ _)
      (World.shaped_of_ZipB (by kernel_rfl) (by kernel_rfl)) (by kernel_rfl) (by kernel_rfl) (by kernel_rfl)
      (by rw[MakeChecks.laidMetH_plain _ _ _ (by kernel_rfl)];exact laidMet_laidAll _ (by kernel_rfl) (by kernel_rfl))) ?_
  intro W base args ds gs before hval0 hW hc _ hL _
  have hval:∀(j:Nat) t v,Tryz.f3.params[j]? = some t->args[j]? = some v->Value.okWide Tryz.prog W .any base t v:=hval0
  have hW':=hW
  obtain⟨p,q,hA0,hV,rfl,_,_⟩:=hW
  have hA:DataW.TrodAll enc Tryz.prog W 0 (λ_=>true) true Tryz.f3.params.toList args.toList ds p:=hA0
  have hlt:∀y∈p,y.block<W.heap.size:=DataW.TrodAll.lt hA
  rw[Tryz.params3]at hA hval
  obtain⟨x0,v1,v2,d0,d1,d2,p0,p1,p2,rfl,rfl,rfl,h0,h1,h2⟩:=trodAll_three hA
  obtain⟨rfl,rfl⟩:=trodVars_none hV
  have hx0:=Zs Tryz.underlying22 (by have h:=hval 0 22 x0 rfl rfl;unfold Value.okWide at h;rw[Tryz.underlying22]at h;exact h)
  obtain⟨x1,rfl⟩:=Xs Tryz.underlying3 (by have h:=hval 1 3 v1 rfl rfl;unfold Value.okWide at h;rw[Tryz.underlying3]at h;exact h)
  obtain⟨x2,rfl⟩:=Xs Tryz.underlying3 (by have h:=hval 2 3 v2 rfl rfl;unfold Value.okWide at h;rw[Tryz.underlying3]at h;exact h)
  simp only[BP]at hW'
  refine(ATt x0 x1 x2 hx0 W (λblk off len cap e=>by subst e;exact pP Tryz.underlying22 Tryz.underlying3 (by kernel_rfl) h0)).mono λe W' ⟨he,hb⟩=>?_
  subst he
  refine⟨_,rfl,_,_,_,[],p0++(p1++p2),[],hW',?_,?_,?_,World.keptBut_mono (λ_ f=>f.elim) (hb.frame (λ_=>False)),λh=>by cases h⟩
  · exact trodAll_mk1 (shut_bool Tryz.underlying4 true)
  · exact trodAll_mk3 (Below.trod UC (by kernel_rfl) (of_decide_eq_true (by kernel_rfl)) h0 hb (λy hy=>hlt y (by simp[hy]))) (Below.trod UC (by kernel_rfl) (of_decide_eq_true (by kernel_rfl)) h1 hb (λy hy=>hlt y (by simp[hy]))) (Below.trod UC (by kernel_rfl) (of_decide_eq_true (by kernel_rfl)) h2 hb (λy hy=>hlt y (by simp[hy])))
  · rfl
theorem AUD:Rows.UperChoicesSaid:=
 OpenClaim.holds_of_wide 3 Tryz.f3 rfl rfl rfl rfl rfl rfl rfl ⟨rfl,rfl,rfl,rfl,rfl⟩ rfl rfl rfl rfl rfl (by kernel_rfl) Tryz.func3 (by unfold joinedFacts;rw[lG,UE,ZZ,XW];kernel_rfl)
  (of_decide_eq_true (by kernel_rfl)) (by unfold Func.isWrapper;first | (rw[if_pos (by decide +kernel)];kernel_rfl) | (rw[if_neg (by decide +kernel)];exact⟨rfl,rfl⟩))
  (λos started H enc _=>AE5 os started H enc)
theorem gD(f:FuncId)(fn:Func)(hf:Tryz.pinned.checked.prog.funcNamed Rows.uperChoicesRow.func=some f)(hfn:Tryz.pinned.checked.prog.funcs[f]? = some fn):
  false=Tryz.pinned.checked.prog.looks []/\∀(j:Nat) t,fn.params[j]? = some t->Tryz.pinned.checked.prog.wantsStandIn t=false:=by
 obtain rfl:f=3:=AY.inj ((show Tryz.prog.funcNamed Rows.uperChoicesRow.func=some 3 by kernel_rfl).symm.trans hf) |>.symm
 obtain rfl:fn=Tryz.f3:=(AY.inj (Tryz.func3.symm.trans hfn)).symm
 refine⟨by kernel_rfl,λj t ht=>?_⟩
 rw[Tryz.params3]at ht
 have hm:=Kw ht
 simp only[List.mem_toArray,A0,FU,or_false]at hm
 rcases hm with rfl|rfl|rfl
 ·exact(show Tryz.prog.wantsStandIn 22=false by kernel_rfl)
 ·exact(show Tryz.prog.wantsStandIn 3=false by kernel_rfl)
 ·exact(show Tryz.prog.wantsStandIn 3=false by kernel_rfl)
theorem card:Rows.UperChoicesCardSaid:=
 Claim7.holds_tied_plain_at .later [] _ _ _ _ AUD (λ_ h=>by cases h) (by kernel_rfl) (λ_ h=>by cases h) uperChoices_row_tie rfl ⟨rfl,rfl⟩ (by kernel_rfl) rfl gD (by kernel_rfl)
#print axioms card
end Go.Proofs.YtpbligmafbkeaaaGreatDoor.uperChoices
