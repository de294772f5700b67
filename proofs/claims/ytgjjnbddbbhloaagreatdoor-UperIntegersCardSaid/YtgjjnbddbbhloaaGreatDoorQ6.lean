/- What the last text leans on, part 7 of 7: merged out of smaller texts. No condition. -/
import Derived.Test.YtgjjnbddbbhloaaGreatDoorChecked
import Derived.Test.YtgjjnbddbbhloaaGreatDoorCards
import Derived.KernelRfl
import Derived.Test.YtgjjnbddbbhloaaGreatDoorQ5
set_option linter.all false
set_option maxRecDepth 100000
namespace Go.Proofs.YtgjjnbddbbhloaaGreatDoor
open Go Go.Og
noncomputable section
theorem num_step {N len:Nat} {m:Bool} {ds r:List Nat} {ts:List Tok} (hn:NumOk m ds r) (h:Tks (N+10) len r ts):Tks (N+10) len (numT m ds++r) ((3,numT m ds,len-(numT m ds++r).length)::ts):=by
 obtain⟨c,l,e,a,_,b⟩:=numT_head hn
 exact .one (r1:=numT m ds++r) (by rw[e];exact wht_no a (b _)) (.num hn) h
theorem dd_next {m:Bool} {ds r:List Nat} (hn:NumOk m ds r):∃c u,numT m ds++r=c::u∧c≠46:=by
 obtain⟨c,l,e,_,n,_⟩:=numT_head hn
 exact⟨c,l++r,by rw[e];rfl,n⟩
def wdDT (len:Nat) (t:List Nat) (ts:List Tok):List Tok:=(6,[46,46],len-(46::46::t).length)::ts
theorem wdD {N len:Nat} {t:List Nat} {ts:List Tok} (hc:∃c u,t=c::u∧c≠46) (h:Tks (N+10) len t ts):Tks (N+10) len (46::46::t) (wdDT len t ts):=by
 unfold wdDT
 refine .one (wht_no rfl rfl) (tk_sign (n:=2) (by obtain⟨c,u,e,hc⟩:=hc;rw[e];exact sg_dd _ _ hc) (by decide) rfl rfl rfl rfl (by decide) (by decide) (by decide)) ?_
 exact h
def wdEnd (len:Nat):List Tok:=[(6,[41],len-(41::32::69::78::68::[]).length),(5,[69,78,68],len-(69::78::68::[]).length),(0,[],len)]
theorem sg_cm (r:List Nat):sgIn signsV (44::r)=1:=by
 unfold signsV
 rw[sg_skip (by decide +kernel) (by decide +kernel)]
 rw[sg_skip (by decide +kernel) (by decide +kernel)]
 rw[sg_skip (by decide +kernel) (by decide +kernel)]
 rw[sg_skip (by decide +kernel) (by decide +kernel)]
 rw[sg_skip (by decide +kernel) (by decide +kernel)]
 rw[sg_skip (by decide +kernel) (by decide +kernel)]
 rw[sg_skip (by decide +kernel) (by decide +kernel)]
 rw[sg_skip (by decide +kernel) (by decide +kernel)]
 rw[sg_skip (by decide +kernel) (by decide +kernel)]
 rw[sg_skip (by decide +kernel) (by decide +kernel)]
 rw[sg_skip (by decide +kernel) (by decide +kernel)]
 exact sg_hit (t:=BS.mk 1 44) (s:=r) (by rw[show (BS.mk 1 44).nats=[44] from by decide +kernel];rfl)
theorem sg_ddd (r:List Nat):sgIn signsV (46::46::46::r)=3:=by
 unfold signsV
 rw[sg_skip (by decide +kernel) (by decide +kernel)]
 exact sg_hit (t:=BS.mk 3 3026478) (s:=r) (by rw[show (BS.mk 3 3026478).nats=[46,46,46] from by decide +kernel];rfl)
def uiAT (len:Nat) (t:List Nat) (ts:List Tok):List Tok:=(1,[77],len-(77::32::68::69::70::73::78::73::84::73::79::78::83::32::58::58::61::32::66::69::71::73::78::32::65::32::58::58::61::32::73::78::84::69::71::69::82::32::66::32::58::58::61::32::73::78::84::69::71::69::82::32::40::t).length)::(5,[68,69,70,73,78,73,84,73,79,78,83],len-(68::69::70::73::78::73::84::73::79::78::83::32::58::58::61::32::66::69::71::73::78::32::65::32::58::58::61::32::73::78::84::69::71::69::82::32::66::32::58::58::61::32::73::78::84::69::71::69::82::32::40::t).length)::(6,[58,58,61],len-(58::58::61::32::66::69::71::73::78::32::65::32::58::58::61::32::73::78::84::69::71::69::82::32::66::32::58::58::61::32::73::78::84::69::71::69::82::32::40::t).length)::(5,[66,69,71,73,78],len-(66::69::71::73::78::32::65::32::58::58::61::32::73::78::84::69::71::69::82::32::66::32::58::58::61::32::73::78::84::69::71::69::82::32::40::t).length)::(1,[65],len-(65::32::58::58::61::32::73::78::84::69::71::69::82::32::66::32::58::58::61::32::73::78::84::69::71::69::82::32::40::t).length)::(6,[58,58,61],len-(58::58::61::32::73::78::84::69::71::69::82::32::66::32::58::58::61::32::73::78::84::69::71::69::82::32::40::t).length)::(5,[73,78,84,69,71,69,82],len-(73::78::84::69::71::69::82::32::66::32::58::58::61::32::73::78::84::69::71::69::82::32::40::t).length)::(1,[66],len-(66::32::58::58::61::32::73::78::84::69::71::69::82::32::40::t).length)::(6,[58,58,61],len-(58::58::61::32::73::78::84::69::71::69::82::32::40::t).length)::(5,[73,78,84,69,71,69,82],len-(73::78::84::69::71::69::82::32::40::t).length)::(6,[40],len-(40::t).length)::ts
theorem uiA {N len:Nat} {t:List Nat} {ts:List Tok} (h:Tks (N+10) len t ts):Tks (N+10) len (77::32::68::69::70::73::78::73::84::73::79::78::83::32::58::58::61::32::66::69::71::73::78::32::65::32::58::58::61::32::73::78::84::69::71::69::82::32::66::32::58::58::61::32::73::78::84::69::71::69::82::32::40::t) (uiAT len t ts):=by
 unfold uiAT
 refine .one (wht_no rfl rfl) (tk_name (n:=1) rfl rfl rfl rfl (by decide +kernel) (by decide +kernel)) ?_
 refine .one (wht_ws rfl rfl) (tk_name (n:=11) rfl rfl rfl rfl (by decide +kernel) (by decide +kernel)) ?_
 refine .one (wht_ws rfl rfl) (tk_sign (sg_asg _) (by decide) rfl rfl rfl rfl (by decide) (by decide) (by decide)) ?_
 refine .one (wht_ws rfl rfl) (tk_name (n:=5) rfl rfl rfl rfl (by decide +kernel) (by decide +kernel)) ?_
 refine .one (wht_ws rfl rfl) (tk_name (n:=1) rfl rfl rfl rfl (by decide +kernel) (by decide +kernel)) ?_
 refine .one (wht_ws rfl rfl) (tk_sign (sg_asg _) (by decide) rfl rfl rfl rfl (by decide) (by decide) (by decide)) ?_
 refine .one (wht_ws rfl rfl) (tk_name (n:=7) rfl rfl rfl rfl (by decide +kernel) (by decide +kernel)) ?_
 refine .one (wht_ws rfl rfl) (tk_name (n:=1) rfl rfl rfl rfl (by decide +kernel) (by decide +kernel)) ?_
 refine .one (wht_ws rfl rfl) (tk_sign (sg_asg _) (by decide) rfl rfl rfl rfl (by decide) (by decide) (by decide)) ?_
 refine .one (wht_ws rfl rfl) (tk_name (n:=7) rfl rfl rfl rfl (by decide +kernel) (by decide +kernel)) ?_
 refine .one (wht_ws rfl rfl) (tk_sign (sg_lp _) (by decide) rfl rfl rfl rfl (by decide) (by decide) (by decide)) ?_
 exact h
def uiBT (len:Nat) (t:List Nat) (ts:List Tok):List Tok:=(6,[46,46],len-(46::46::77::65::88::41::32::67::32::58::58::61::32::73::78::84::69::71::69::82::32::40::t).length)::(5,[77,65,88],len-(77::65::88::41::32::67::32::58::58::61::32::73::78::84::69::71::69::82::32::40::t).length)::(6,[41],len-(41::32::67::32::58::58::61::32::73::78::84::69::71::69::82::32::40::t).length)::(1,[67],len-(67::32::58::58::61::32::73::78::84::69::71::69::82::32::40::t).length)::(6,[58,58,61],len-(58::58::61::32::73::78::84::69::71::69::82::32::40::t).length)::(5,[73,78,84,69,71,69,82],len-(73::78::84::69::71::69::82::32::40::t).length)::(6,[40],len-(40::t).length)::ts
theorem uiB {N len:Nat} {t:List Nat} {ts:List Tok} (h:Tks (N+10) len t ts):Tks (N+10) len (46::46::77::65::88::41::32::67::32::58::58::61::32::73::78::84::69::71::69::82::32::40::t) (uiBT len t ts):=by
 unfold uiBT
 refine .one (wht_no rfl rfl) (tk_sign (n:=2) (sg_dd _ _ (by decide)) (by decide) rfl rfl rfl rfl (by decide) (by decide) (by decide)) ?_
 refine .one (wht_no rfl rfl) (tk_name (n:=3) rfl rfl rfl rfl (by decide +kernel) (by decide +kernel)) ?_
 refine .one (wht_no rfl rfl) (tk_sign (sg_rp _) (by decide) rfl rfl rfl rfl (by decide) (by decide) (by decide)) ?_
 refine .one (wht_ws rfl rfl) (tk_name (n:=1) rfl rfl rfl rfl (by decide +kernel) (by decide +kernel)) ?_
 refine .one (wht_ws rfl rfl) (tk_sign (sg_asg _) (by decide) rfl rfl rfl rfl (by decide) (by decide) (by decide)) ?_
 refine .one (wht_ws rfl rfl) (tk_name (n:=7) rfl rfl rfl rfl (by decide +kernel) (by decide +kernel)) ?_
 refine .one (wht_ws rfl rfl) (tk_sign (sg_lp _) (by decide) rfl rfl rfl rfl (by decide) (by decide) (by decide)) ?_
 exact h
def uiMT (len:Nat) (t:List Nat) (ts:List Tok):List Tok:=(6,[46,46],len-(46::46::77::65::88::44::32::46::46::46::41::32::67::32::58::58::61::32::73::78::84::69::71::69::82::32::40::t).length)::(5,[77,65,88],len-(77::65::88::44::32::46::46::46::41::32::67::32::58::58::61::32::73::78::84::69::71::69::82::32::40::t).length)::(6,[44],len-(44::32::46::46::46::41::32::67::32::58::58::61::32::73::78::84::69::71::69::82::32::40::t).length)::(6,[46,46,46],len-(46::46::46::41::32::67::32::58::58::61::32::73::78::84::69::71::69::82::32::40::t).length)::(6,[41],len-(41::32::67::32::58::58::61::32::73::78::84::69::71::69::82::32::40::t).length)::(1,[67],len-(67::32::58::58::61::32::73::78::84::69::71::69::82::32::40::t).length)::(6,[58,58,61],len-(58::58::61::32::73::78::84::69::71::69::82::32::40::t).length)::(5,[73,78,84,69,71,69,82],len-(73::78::84::69::71::69::82::32::40::t).length)::(6,[40],len-(40::t).length)::ts
theorem uiM {N len:Nat} {t:List Nat} {ts:List Tok} (h:Tks (N+10) len t ts):Tks (N+10) len (46::46::77::65::88::44::32::46::46::46::41::32::67::32::58::58::61::32::73::78::84::69::71::69::82::32::40::t) (uiMT len t ts):=by
 unfold uiMT
 refine .one (wht_no rfl rfl) (tk_sign (n:=2) (sg_dd _ _ (by decide)) (by decide) rfl rfl rfl rfl (by decide) (by decide) (by decide)) ?_
 refine .one (wht_no rfl rfl) (tk_name (n:=3) rfl rfl rfl rfl (by decide +kernel) (by decide +kernel)) ?_
 refine .one (wht_no rfl rfl) (tk_sign (sg_cm _) (by decide) rfl rfl rfl rfl (by decide) (by decide) (by decide)) ?_
 refine .one (wht_ws rfl rfl) (tk_sign (sg_ddd _) (by decide) rfl rfl rfl rfl (by decide) (by decide) (by decide)) ?_
 refine .one (wht_no rfl rfl) (tk_sign (sg_rp _) (by decide) rfl rfl rfl rfl (by decide) (by decide) (by decide)) ?_
 refine .one (wht_ws rfl rfl) (tk_name (n:=1) rfl rfl rfl rfl (by decide +kernel) (by decide +kernel)) ?_
 refine .one (wht_ws rfl rfl) (tk_sign (sg_asg _) (by decide) rfl rfl rfl rfl (by decide) (by decide) (by decide)) ?_
 refine .one (wht_ws rfl rfl) (tk_name (n:=7) rfl rfl rfl rfl (by decide +kernel) (by decide +kernel)) ?_
 refine .one (wht_ws rfl rfl) (tk_sign (sg_lp _) (by decide) rfl rfl rfl rfl (by decide) (by decide) (by decide)) ?_
 exact h
def uiET (len:Nat) (t:List Nat) (ts:List Tok):List Tok:=(6,[44],len-(44::32::46::46::46::t).length)::(6,[46,46,46],len-(46::46::46::t).length)::ts
theorem uiE {N len:Nat} {t:List Nat} {ts:List Tok} (h:Tks (N+10) len t ts):Tks (N+10) len (44::32::46::46::46::t) (uiET len t ts):=by
 unfold uiET
 refine .one (wht_no rfl rfl) (tk_sign (sg_cm _) (by decide) rfl rfl rfl rfl (by decide) (by decide) (by decide)) ?_
 refine .one (wht_ws rfl rfl) (tk_sign (sg_ddd _) (by decide) rfl rfl rfl rfl (by decide) (by decide) (by decide)) ?_
 exact h
def uiR2 (mo:Bool) (w2:List Nat):List Nat:=match mo with
 | false=>46::46::(w2++ubPost)
 | true=>46::46::(w2++(44::32::46::46::46::ubPost))
def uiR1 (mo:Bool) (w1 w2:List Nat):List Nat:=match mo with
 | false=>46::46::77::65::88::41::32::67::32::58::58::61::32::73::78::84::69::71::69::82::32::40::(w1++uiR2 false w2)
 | true=>46::46::77::65::88::44::32::46::46::46::41::32::67::32::58::58::61::32::73::78::84::69::71::69::82::32::40::(w1++uiR2 true w2)
def uiText (mo:Bool) (w1 w2:List Nat):List Nat:=77::32::68::69::70::73::78::73::84::73::79::78::83::32::58::58::61::32::66::69::71::73::78::32::65::32::58::58::61::32::73::78::84::69::71::69::82::32::66::32::58::58::61::32::73::78::84::69::71::69::82::32::40::(w1++uiR1 mo w1 w2)
def uiToks (mo:Bool) (len:Nat) (w1 w2:List Nat):List Tok:=uiAT len (w1++uiR1 mo w1 w2) ((3,w1,len-(w1++uiR1 mo w1 w2).length)::match mo with
 | false=>uiBT len (w1++uiR2 false w2) ((3,w1,len-(w1++uiR2 false w2).length)::wdDT len (w2++ubPost) ((3,w2,len-(w2++ubPost).length)::wdEnd len))
 | true=>uiMT len (w1++uiR2 true w2) ((3,w1,len-(w1++uiR2 true w2).length)::wdDT len (w2++(44::32::46::46::46::ubPost)) ((3,w2,len-(w2++(44::32::46::46::46::ubPost)).length)::uiET len ubPost (wdEnd len))))
theorem ui_toks (mo:Bool) (N len:Nat) {m1 m1' m2:Bool} {d1 d1' d2:List Nat} (e:numT m1' d1'=numT m1 d1) (h1:NumOk m1 d1 (uiR1 mo (numT m1 d1) (numT m2 d2))) (h1':NumOk m1' d1' (uiR2 mo (numT m2 d2))) (h2:NumOk m2 d2 (match mo with | false=>ubPost | true=>(44::32::46::46::46::ubPost))) :
  Tks (N+10) len (uiText mo (numT m1 d1) (numT m2 d2)) (uiToks mo len (numT m1 d1) (numT m2 d2)):=by
 unfold uiText uiToks
 cases mo with
 | false=>
  refine uiA (num_step h1 (uiB (ts:=_::_) ?_))
  rw[←e]
  exact num_step h1' (wdD (dd_next h2) (num_step h2 (ub_post N len)))
 | true=>
  refine uiA (num_step h1 (uiM (ts:=_::_) ?_))
  rw[←e]
  exact num_step h1' (wdD (dd_next h2) (num_step h2 (uiE (ub_post N len))))
def uiC0:ConS:=⟨false,false,false,false,0,0⟩
def uiC1 (mo:Bool) (lo:Int):ConS:=⟨true,true,false,mo,lo,0⟩
def uiC2 (mo:Bool) (lo hi:Int):ConS:=⟨true,true,true,mo,lo,hi⟩
def uiNd (c:ConS):NodeS:=⟨2,[],false,0,0,c,[],[],0,false,0⟩
def uiMd (mo:Bool) (lo hi:Int):ModS:=⟨[77],0,[[65],[66],[67]],[0,1,2],[uiNd uiC0,uiNd (uiC1 mo lo),uiNd (uiC2 mo lo hi)]⟩
theorem ui_mod (mo:Bool) (len:Nat) (w1 w2:List Nat):modP (typP 2) (uiToks mo len w1 w2)=some (uiMd mo (numI w1) (numI w2)):=by
 cases mo with
 | false=>kernel_rfl
 | true=>kernel_rfl
theorem ui_ok (mo:Bool) (lo hi:Int):MdOk (uiMd mo lo hi):=by
 refine⟨fun nd h=>?_,⟨show 3≤300 by decide,show 3≤40 by decide⟩,rfl,fun i hi'=>?_⟩
 ·have h:nd=uiNd uiC0∨nd=uiNd (uiC1 mo lo)∨nd=uiNd (uiC2 mo lo hi):=by simpa[uiMd]using h
  rcases h with h|h|h <;>
  ·subst h
   exact⟨show (2:Nat)≠11 by decide,show (2:Nat)≤10 by decide,show (0:Nat)≤5000 by decide⟩
 ·have hi':i<3:=hi'
  have:i=0∨i=1∨i=2:=by omega
  rcases this with rfl|rfl|rfl<;>rfl
theorem ui_roots {mo:Bool} {lo hi:Int} (h:ltF hi lo=false):rootsP (nodP (uiMd mo lo hi) 2) [0,1,2] [] []=some ([0,1,2],[mkTy (uiNd uiC0),mkTy (uiNd (uiC1 mo lo)),mkTy (uiNd (uiC2 mo lo hi))]):=by
 have hc:checkP (uiC2 mo lo hi) (!decide ((uiNd (uiC2 mo lo hi)).kind=2))=true:=by
  show (!true || !(((true&&true)&&ltF hi lo) || (false&&_)))=true
  rw[h];rfl
 have q2:nodeS (uiMd mo lo hi) (nodP (uiMd mo lo hi) 1) 0 2 [mkTy (uiNd uiC0),mkTy (uiNd (uiC1 mo lo))]=some (2,[mkTy (uiNd uiC0),mkTy (uiNd (uiC1 mo lo)),mkTy (uiNd (uiC2 mo lo hi))]):=by
  show madeS (nodP (uiMd mo lo hi) 1) 0 (uiNd (uiC2 mo lo hi)) [mkTy (uiNd uiC0),mkTy (uiNd (uiC1 mo lo))]=_
  unfold madeS
  rw[show (uiNd (uiC2 mo lo hi)).con=uiC2 mo lo hi from rfl,hc]
  rfl
 show (((nodeS (uiMd mo lo hi) (nodP (uiMd mo lo hi) 1) 0 2 [mkTy (uiNd uiC0),mkTy (uiNd (uiC1 mo lo))]).bind fun r=>rootsP (nodP (uiMd mo lo hi) 2) [] r.2 ([0,1]++[r.1])):Option (List Nat × List TyS))=_
 rw[q2];rfl
theorem hit1 {e:Few} {F:List V→H→Ans} {args:List V} {σ:H} {ρ:Nat→Nat} (hm:e.Fits ρ args σ):∃ρ',e.Fits ρ' args σ∧locF [e] F args σ=some (e.ans ρ' σ):=by
 obtain⟨e',ρ',he,hf,hr⟩:=locF_hit (F:=F) (l:=[e]) (List.mem_singleton.2 rfl) hm
 have:=List.mem_singleton.1 he
 subst this
 exact⟨ρ',hf,hr⟩
theorem Has.nil {ρ:Nat→Nat} {σ:H}:Has [] ρ σ:=fun id b h=>by cases h
theorem Inj.nil {ρ:Nat→Nat}:Inj [] ρ:=fun id id' h=>by cases h
variable {E:List (Nat × Blk)}
theorem xRat (d:Nat):SpRat (TW E (d+1) 205):=by rw[DE205];exact rat_F
theorem xLet (d:Nat):SpLet (TW E (d+1) 206):=by rw[DE206];exact rlet_F
theorem xDig (d:Nat):SpDig (TW E (d+1) 209):=by rw[DE209];exact rdig_F
theorem xWht (d:Nat):SpWht 600000 (TW E (d+2) 117):=by rw[DE117];exact wht_F (xRat d) (by decide)
theorem xInS (d:Nat):SpInS (TW E (d+1) 123):=by rw[DE123];exact inS_F (by decide)
theorem xWords (d:Nat):∀σ:H,(TW E (d+1) 274) [] σ=some (.sl σ.next 0 25 (.ex 25),newB σ (.cells (wordsV.map .str))):=by rw[DE274];exact rwords_F
theorem xWord (d:Nat):SpRword (TW E (d+2) 208):=by rw[DE208];exact rword_F (xInS d) (xWords d)
theorem xName (d:Nat):SpRname (TW E (d+2) 207):=by rw[DE207];exact rname_F (xRat d) (xLet d) (xDig d) (by decide)
theorem xSign (d:Nat):SpRsign (TW E (d+1) 213):=by rw[DE213];exact rsign_F (by decide)
theorem xNum (d:Nat):SpRnum (TW E (d+2) 210):=by rw[DE210];exact rnum_F (xRat d) (xLet d) (xDig d) (by decide)
theorem xOne (d:Nat):SpOne (TW E (d+3) 118):=by rw[DE118];exact one_F (xRat (d+1)) (xLet (d+1)) (xDig (d+1)) (xName d) (xWord d) (xNum d) (xSign (d+1))
theorem xToks (d:Nat):SpTks 600000 (TW E (d+4) 56):=by rw[DE56];exact rtokens_F (xWht (d+1)) (xOne d) (by decide)
theorem xNow (d:Nat):SpNow (TW E (d+1) 60):=by rw[DE60];exact now_F
theorem xNext (d:Nat):SpNext (TW E (d+1) 119):=by rw[DE119];exact next_F
theorem xIs (d:Nat):SpIs (TW E (d+2) 59):=by rw[DE59];exact is_F (xNow d) (xNext d)
theorem xMust (d:Nat):SpMust (TW E (d+3) 58):=by rw[DE58];exact must_F (xIs d)
theorem xKind (d:Nat):SpKind (TW E (d+2) 57):=by rw[DE57];exact kind_F (xNow d) (xNext d)
theorem xWhole (d:Nat):SpWhole (TW E (d+1) 214):=by rw[DE214];exact whole_F (by decide)
theorem xNumb (d:Nat):SpNumb (TW E (d+3) 121):=by rw[DE121];exact numb_F (xKind d) (xWhole (d+1))
theorem xBnds (d:Nat):SpBounds (TW E (d+4) 216):=by rw[DE216];exact bounds_F (xIs (d+1)) (xMust d) (xNumb d)
theorem xBeg (d:Nat):SpBeg (TW E (d+1) 120):=by rw[DE120];exact beg_F (by decide)
theorem xBase1 (d:Nat):SpBaseT (typP 1) (TW E (d+5) 122):=by rw[DE122];exact base_F (xNow (d+3)) (xIs (d+2)) (xMust (d+1)) (xBnds d)
theorem xTyp2 (d:Nat):SpTypT (typP 2) (TW E (d+6) 62):=by rw[DE62];exact typ_F (typP_mon 1) (xNow (d+4)) (xBeg (d+4)) (xIs (d+3)) (xMust (d+2)) (xNumb (d+2)) (xBase1 d)
theorem xParse (d:Nat):SpParse 600000 (typP 2) (TW E (d+7) 34):=by rw[DE34];exact parse_F (xNow (d+5)) (xIs (d+4)) (xMust (d+3)) (xKind (d+4)) (xToks (d+2)) (xTyp2 d) (by decide)
theorem xUni (d:Nat):SpUni (TW E (d+1) 220):=by rw[DE220];exact uni_F
theorem xCheck (d:Nat):SpCheck (TW E (d+1) 221):=by rw[DE221];exact check_F
theorem xInI (d:Nat):SpInI (TW E (d+1) 29):=by rw[DE29];exact inI_F (by decide)
theorem xUsesQ {m:ModS} (hm:MdOk m) (d:Nat):∀q:Nat,SpUses m q (TW E (d+(q+1)) 124)
 | 0=>by rw[show d+(0+1)=d+1 from rfl,DE124];exact uses_F hm (by decide) (fun p e=>by cases e)
 | q+1=>by
  rw[show d+(q+1+1)=(d+(q+1))+1 from rfl,DE124]
  exact uses_F hm (by decide) (fun p e=>by cases e;exact xUsesQ hm d q)
theorem xUses {m:ModS} (hm:MdOk m) (d:Nat):SpUses m 17 (TW E (d+18) 124):=xUsesQ hm d 17
theorem xReach (d:Nat):SpReach (TW E (d+1) 125):=by rw[DE125];exact reach_F (by decide)
theorem xOrder {m:ModS} (hm:MdOk m) (d:Nat):SpOrder m (TW E (d+19) 63):=by rw[DE63];exact order_F hm (xInS (d+17)) (xInI (d+17)) (xUses hm d) (xReach (d+17)) (by decide)
theorem xMnode0 (m:ModS) (d:Nat):SpMnode m (nodP m 0) (TW E d 64):=by
 intro σ0 σ xb nv tv dv lv tl tl' d k i Q _ _ _ _ _ h
 cases h
theorem xMmade0 (m:ModS) (d:Nat):SpMmade m (nodP m 0) (TW E (d+2) 127):=by rw[DE127];exact made_F (xUni d) (xCheck d) (xMnode0 m (d+1))
theorem xMnode1 (m:ModS) (d:Nat):SpMnode m (nodP m 1) (TW E (d+3) 64):=by rw[DE64];exact node_F (xMmade0 m d)
theorem xMmade1 (m:ModS) (d:Nat):SpMmade m (nodP m 1) (TW E (d+4) 127):=by rw[DE127];exact made_F (xUni (d+2)) (xCheck (d+2)) (xMnode1 m d)
theorem xMnode2 (m:ModS) (d:Nat):SpMnode m (nodP m 2) (TW E (d+5) 64):=by rw[DE64];exact node_F (xMmade1 m d)
theorem xMake {m:ModS} (hm:MdOk m) (d:Nat):SpMake m (nodP m 2) (TW E (d+20) 35):=by rw[DE35];exact make_F hm (xOrder hm d) (xMnode2 m (d+14)) (by decide)
theorem xTable (d:Nat):SpTable 600000 (TW E (d+21) 13):=by rw[DE13];exact table_F (xParse (d+13)) (fun _ hm=>xMake hm d)
theorem xDigitsQ (d:Nat):∀k:Nat,k≤31→SpDigits k (TW E (d+(k+1)) 12)
 | 0,_=>by rw[show d+(0+1)=d+1 from rfl,DE12];exact digits0_F _ _ _ _
 | k+1,h=>by
  rw[show d+(k+1+1)=(d+(k+1))+1 from rfl,DE12]
  exact digits_F (xDigitsQ d k (by omega)) (by omega)
theorem xDigits (d:Nat):SpDigits 19 (TW E (d+20) 12):=xDigitsQ d 19 (by decide)
theorem xNumber (d:Nat):SpNumber (TW E (d+21) 14):=by rw[DE14];exact number_F (xDigits d)
theorem xPlain (d:Nat):SpPlain (TW E (d+1) 131):=by rw[DE131];exact plain_F
theorem xWithin (d:Nat):SpWithin (TW E (d+1) 132):=by rw[DE132];exact fun σ h hl hh mo lo hi v ht=>within_F ht h hl hh mo lo hi v
theorem xIx (d:Nat):SpIx (TW E (d+1) 138) (TW E d):=by rw[DE138];exact fun ht hr hq hn=>ixV_F ht hr hq (by omega) (by omega)
theorem xCf (d:Nat):SpCf (TW E (d+2) 69) (TW E d):=by rw[DE69];exact cfV_F (xIx d)
theorem xCount0 (d:Nat) {σ:H} (ht:Tidy σ) (v:Vc) (hl:v.l = .nils):∃σ',TW E (d+1) 66 [.agg v.c] σ=some (.int .i64 (Int.ofNat 1),σ')∧Fr Nowhere σ σ':=by
 rw[DE66];exact count_F (n:=0) (g:=fun _=>v) (by omega) (by omega) ht ⟨.inl ⟨rfl,hl⟩⟩ (fun _ k hk=>absurd hk (Nat.not_lt_zero _))
theorem xRules0 (d:Nat) {σ:H} (ht:Tidy σ) (v:Vc) (hl:v.l = .nils) (hr:v.r=Int.ofNat 0) (ru:Int):∃σ',TW E (d+3) 38 [.agg v.c,.int .i64 ru] σ=some (.bool true,σ')∧Fr Nowhere σ σ':=by
 rw[DE38];exact rules_F (n:=0) (g:=fun _=>v) (xCf d) (by omega) (by rw[hr];rfl) ht ⟨.inl ⟨rfl,hl⟩⟩ (fun _ _ k hk=>absurd hk (Nat.not_lt_zero _))
theorem xFits (d:Nat) {nT i:Nat} {ty:Nat→Ty} {v:Int} {σ:H} {nm:BS} {nv rv tv:V} {b:Bool} (ht:Tidy σ) (T:Tb σ nT ty nv rv tv) (hi:i<nT) (hk:(ty i).kind=Int.ofNat 2) (hb:((ty i).conMore || withinB (ty i).has (ty i).hasLow (ty i).hasHigh (ty i).low (ty i).high v)=b) :
  ∃σ',TW E (d+3) 36 [.agg [.str nm,nv,rv,tv],.int .i64 (Int.ofNat i),.agg (Vc.int v).c] σ=some (.bool b,σ')∧Fr Nowhere σ σ':=by
 have hF:∀(σ1:H) (p:Nat) (rest:List V),Tidy σ1→Ck σ1 p nT ty nm nv rv tv rest→∃σ2,TW E (d+2) 65 [.ptr p 0,.int .i64 (Int.ofNat i),.agg (Vc.int v).c,.int .i64 (Int.ofNat 1)] σ1=some (.bool b,σ2)∧Fr Nowhere σ1 σ2:=fun σ1 p rest h1 hc=>by
  rw[DE65,←hb];exact fitsIntB_F (xPlain d) (xWithin d) h1 hc hi (by decide) hk v
 cases b with
 | true=>
  rw[DE36]
  exact Fits_F (v:=Vc.int v) (n:=1) (by omega) ht T.row T.n1 T.r1 T.t1 (fun σ1 p h1 f hc=>hF σ1 p _ h1 hc) (fun σ1 h1 f=>xCount0 (d+1) h1 (Vc.int v) rfl)
 | false=>
  rw[DE36]
  exact FitsN_F (v:=Vc.int v) ht T.row T.n1 T.r1 T.t1 (fun σ1 p h1 f hc=>hF σ1 p _ h1 hc)
theorem xLenU (d:Nat):SpLenG (TW E (d+1) 290):=by rw[DE290];exact lenG_F
theorem xBwid (d:Nat):SpLenG (TW E (d+2) 237):=by rw[DE237];exact bwidG_F (xLenU d)
theorem xBoth (d:Nat):SpBthG (TW E (d+1) 235):=by rw[DE235];exact bothG_F
theorem xCrs (d:Nat):SpCrsG (TW E (d+2) 236):=by rw[DE236];exact crsG_F (xBoth d)
theorem xBspan (d:Nat):SpSpnG (TW E (d+3) 140):=by rw[DE140];exact spnG_F (xBoth (d+1)) (xCrs d)
theorem xWb (d:Nat):SpWBit (TW E (d+1) 289):=by rw[DE289];exact wbit_F
theorem xBdd32 (d:Nat):SpBdd 32 (TW E (d+1) 260):=by rw[DE260];exact bdd32_F
theorem xBdd64 (d:Nat):SpBdd 64 (TW E (d+1) 182):=by rw[DE182];exact bdd64_F
theorem xPwb (d:Nat):SpWBits (TW E (d+2) 234):=by rw[DE234];exact pwbits_F (xWb d) (xBdd32 d) (by decide)
theorem xWw64 (d:Nat):SpWW64 (TW E (d+3) 139):=by rw[DE139];exact ww64_F (xPwb d) (xBdd64 (d+1))
theorem xWw (d:Nat):SpWWBits (TW E (d+3) 139):=by rw[DE139];exact wwbits_F (xPwb d) (xBdd64 (d+1))
theorem xBtw (d:Nat):SpBtw64 (TW E (d+4) 141):=by rw[DE141];exact btw64_F (xBwid (d+1)) (xWw64 d)
theorem xEFlag (d:Nat):SpEFlag (TW E (d+4) 71):=by rw[DE71];exact eflag_F (xWw d)
theorem xO8 (d:Nat):SpO8 (TW E (d+1) 238):=by rw[DE238];exact o8_F (by decide)
theorem xSgn (d:Nat):SpSigned (TW E (d+2) 143):=by rw[DE143];exact sgn_F (xO8 d) (by decide)
theorem xUns (d:Nat):SpUnsigned (TW E (d+2) 142):=by rw[DE142];exact uns_F (xO8 d) (by decide)
theorem xJoin (d:Nat):SpJoin1 (TW E (d+1) 147):=by rw[DE147];exact join1_F (by decide)
theorem xlcut (d:Nat) {σ:H} {n:Nat} (hn:n<16384):TW E (d+1) 244 [.int .i64 (Int.ofNat n)] σ=some (.tup [.int .i64 (Int.ofNat n),.bool false],σ):=by rw[DE244];exact lcut_F hn
theorem xlCuts (d:Nat):SpCuts1 (TW E (d+2) 148):=by rw[DE148];exact lCuts_F (fun σ n hn=>xlcut d hn) (by decide)
theorem xlput (d:Nat):SpWput (TW E (d+4) 149):=by rw[DE149];exact lput_F (xWw d)
theorem xPO (d:Nat):SpWOct (TW E (d+3) 151):=by rw[DE151];exact pwoct_F (xPwb d) (by decide)
theorem xWO (d:Nat):SpWOct1 (TW E (d+4) 77):=by rw[DE77];exact wwoct_F (xPO d)
theorem xlPut (d:Nat):SpLPut (TW E (d+5) 74):=by rw[DE74];exact lPut_F (xJoin (d+3)) (xlCuts (d+2)) (xlput d) (xWO d) (by decide)
theorem xEInt (d:Nat):SpEIntX (TW E (d+6) 72):=by rw[DE72];exact eintX_F (xWithin (d+4)) (xEFlag (d+1)) (xBspan (d+2)) (xBtw (d+1)) (xSgn (d+3)) (xUns (d+3)) (xlPut d)
theorem xLen (d:Nat):SpWLen (TW E (d+1) 162):=by rw[DE162];exact pwlen_F
theorem xWLen (d:Nat):SpWLen (TW E (d+2) 85):=by rw[DE85];exact wwlen_F (xLen d)
theorem xPB (d:Nat):SpWBytes (TW E (d+1) 86):=by rw[DE86];exact pwbytes_F
theorem xWB (d:Nat):SpWBytesP (TW E (d+3) 40):=by rw[DE40];exact wwbytesP_F (xWLen d) (xPB (d+1))
theorem xRt1 (d:Nat):SpRt1 (TW E (d+1) 68):=by rw[DE68];exact rt1_F
theorem xIdxR (d:Nat):SpIdxR 68 (TW E (d+2) 137) (TW E (d+1)):=by rw[DE137];exact idxR_F (by decide)
theorem xRooted (d:Nat) {σ:H} {nT:Nat} {ty:Nat→Ty} {nm:BS} {nv rv tv:V} (ht:Tidy σ) (hr:Row σ 13 nT tv fun i=>(ty i).c) (h1:nv.one=true) (h2:rv.one=true) (h3:tv.one=true) (hn:nT≤1000) (hq:∀k,k<nT→∃nf ni r,Len (ty k).fields nf∧Len (ty k).items ni∧(ty k).root=Int.ofNat r∧r≤nf+ni∧nf+ni≤10000) :
  ∃σ',TW E (d+4) 37 [.agg [.str nm,nv,rv,tv]] σ=some (.bool true,σ')∧Fr Nowhere σ σ':=by
 rw[DE37]
 refine rootedG_F ht h1 h2 h3 fun σ1 f1=>?_
 rw[DE67]
 exact conR_F (xIdxR d) f1.tidy (hr.fr0 f1 ht) (fun σ2 k hk f2=>by
  obtain⟨nf,ni,r,a,b,e,h,s⟩:=hq k hk
  exact xRt1 d σ2 _ nf ni r f2.tidy a b e h s) hn
structure UiIn (lo hi v:Int):Prop where
 c:ltF hi lo=false
 s:toU (hi-lo)<2 ^ 60
 v:In64i v
 lo:In64i lo
 hi:In64i hi
def uiCs (mo:Bool) (lo hi:Int):List ConS:=[uiC0,uiC1 mo lo,uiC2 mo lo hi]
def uiTl (mo:Bool) (lo hi:Int):List TyS:=[mkTy (uiNd uiC0),mkTy (uiNd (uiC1 mo lo)),mkTy (uiNd (uiC2 mo lo hi))]
def conW (c:ConS) (v:Int):Bool:=c.more || withinB c.has c.hasLow c.hasHigh c.low c.high v
def encC (c:ConS) (v:Int):List Nat:=encI c.has c.hasLow c.hasHigh c.more c.low c.high v
def SpEncX (F:List V→H→Ans):Prop:=∀{n0:Nat} {σ:H} {az:List (List Nat)} {rs:List Nat} {nm:BS} {u rv lv:V} {mo:Bool} {lo hi v:Int} {k:Nat} {c:ConS},Tidy σ→TbS n0 σ az rs (uiTl mo lo hi) u rv lv→(uiCs mo lo hi)[k]? = some c→UiIn lo hi v→conW c v=true →
 ∃b σ',F [.agg [.str nm,u,rv,lv],.int .i64 (Int.ofNat k),.agg (intC v)] σ=some (.tup [b,.int .i64 (Int.ofNat 0)],σ')∧Nb σ σ' b (nI (padB (encC c v)))∧Fr Nowhere σ σ'
def SpEncR (F:List V→H→Ans):Prop:=∀{n0:Nat} {σ:H} {az:List (List Nat)} {rs:List Nat} {nm:BS} {u rv lv:V} {mo:Bool} {lo hi v:Int} {k:Nat} {c:ConS},Tidy σ→TbS n0 σ az rs (uiTl mo lo hi) u rv lv→(uiCs mo lo hi)[k]? = some c→conW c v=false →
 ∃σ',F [.agg [.str nm,u,rv,lv],.int .i64 (Int.ofNat k),.agg (intC v)] σ=some (.tup [.nils,.int .i64 (Int.ofNat 13)],σ')∧Fr Nowhere σ σ'
theorem ui_lt {mo:Bool} {lo hi:Int} {k:Nat} {c:ConS} (h:(uiCs mo lo hi)[k]? = some c):k<3∧(uiTl mo lo hi)[k]? = some (mkTy (uiNd c))∧((c.has&&(c.hasLow&&c.hasHigh))=true→c.low=lo∧c.high=hi)∧∀P:Int→Prop,P 0→P lo→P hi→P c.low∧P c.high:=by
 unfold uiCs at h
 match k,h with
 | 0,h=>cases h;exact⟨by decide,rfl,(fun h=>by cases h),fun P a b c=>⟨a,a⟩⟩
 | 1,h=>cases h;exact⟨by decide,rfl,(fun h=>by cases h),fun P a b c=>⟨b,a⟩⟩
 | 2,h=>cases h;exact⟨by decide,rfl,(fun h=>⟨rfl,rfl⟩),fun P a b c=>⟨b,c⟩⟩
theorem ui_ty {n0:Nat} {σ:H} {az:List (List Nat)} {rs:List Nat} {u rv lv:V} {mo:Bool} {lo hi:Int} (hs:TbS n0 σ az rs (uiTl mo lo hi) u rv lv) :
  ∃ty:Nat→Ty,Tb σ 3 ty u rv lv∧(∀(k:Nat) (c:ConS),(uiCs mo lo hi)[k]? = some c→(ty k).kind=Int.ofNat 2∧(ty k).conX c.has c.hasLow c.hasHigh c.more c.low c.high)∧∀k,k<3→∃nf ni r,Len (ty k).fields nf∧Len (ty k).items ni∧(ty k).root=Int.ofNat r∧r≤nf+ni∧nf+ni≤10000:=by
 obtain⟨ty,row,is⟩:=hs.rows
 obtain⟨o1,o2,o3⟩:=hs.one4
 refine⟨ty,⟨row,o1,o2,o3⟩,fun k c h=>?_,fun k hk=>?_⟩
 ·have i0:=is k _ (ui_lt h).2.1
  exact⟨i0.kind,i0.has,i0.hasLow,i0.hasHigh,i0.conMore,i0.low,i0.high⟩
 ·have hk:k=0∨k=1∨k=2:=by omega
  rcases hk with rfl|rfl|rfl
  ·have i0:=is 0 _ rfl
   exact⟨0,0,0,⟨i0.fields.one,fun κ=>i0.fields.slen⟩,⟨i0.items.one,fun κ=>i0.items.slen⟩,i0.root,by decide,by decide⟩
  ·have i0:=is 1 _ rfl
   exact⟨0,0,0,⟨i0.fields.one,fun κ=>i0.fields.slen⟩,⟨i0.items.one,fun κ=>i0.items.slen⟩,i0.root,by decide,by decide⟩
  ·have i0:=is 2 _ rfl
   exact⟨0,0,0,⟨i0.fields.one,fun κ=>i0.fields.slen⟩,⟨i0.items.one,fun κ=>i0.items.slen⟩,i0.root,by decide,by decide⟩
theorem encC_len (c:ConS) (v:Int):(encC c v).length≤200:=encI_len _ _ _ _ _ _ _
theorem xEnc (d:Nat):SpEncX (TW E (d+8) 15):=by
 intro n0 σ az rs nm u rv lv mo lo hi v k c ht hs hc hu hw
 obtain⟨ty,T,is,hq⟩:=ui_ty hs
 obtain⟨hk,hx⟩:=is k c hc
 obtain⟨k3,_,hb,hP⟩:=ui_lt hc
 obtain⟨x1,x2,x3,x4,x5,x6⟩:=hx
 have hp:=hP In64i ⟨by decide,by decide⟩ hu.lo hu.hi
 have hlh:((c.has&&(c.hasLow&&c.hasHigh))&&ltF c.high c.low)=false:=by
  cases hbb:(c.has&&(c.hasLow&&c.hasHigh))with
  | false=>rfl
  | true=>
   obtain⟨e1,e2⟩:=hb hbb
   rw[e1,e2,hu.c];rfl
 have hs60:(c.has&&(c.hasLow&&c.hasHigh))=true→toU (c.high-c.low)<2 ^ 60:=fun hbb=>by
  obtain⟨e1,e2⟩:=hb hbb
  rw[e1,e2];exact hu.s
 rw[DE15]
 exact encL_F (v:=Vc.int v) (Z:=encC c v) ht T.n1 T.r1 T.t1
  (fun σ1 h1 f=>xFits (d+4) h1 (T.fr f ht) k3 hk (by rw[x1,x2,x3,x4,x5,x6];exact hw))
  (fun σ1 h1 f=>xRooted (d+3) h1 (T.fr f ht).row T.n1 T.r1 T.t1 (by decide) hq)
  (fun σ1 h1 f=>xRules0 (d+4) h1 (Vc.int v) rfl rfl _)
  (fun σ0 σ1 eb w h0 f k=>by
   rw[DE39]
   exact vintX_F (L:=[]) (xEInt (d+0)) k3 hk ⟨x1,x2,x3,x4,x5,x6⟩ hu.v hp.1 hp.2 hlh hs60 h0 (T.fr f ht) k (by decide))
  (xWB (d+4)) (Nat.le_trans (encC_len c v) (by decide))
theorem xEncR (d:Nat):SpEncR (TW E (d+8) 15):=by
 intro n0 σ az rs nm u rv lv mo lo hi v k c ht hs hc hw
 obtain⟨ty,T,is,hq⟩:=ui_ty hs
 obtain⟨hk,hx⟩:=is k c hc
 obtain⟨k3,_,hb,hP⟩:=ui_lt hc
 obtain⟨x1,x2,x3,x4,x5,x6⟩:=hx
 rw[DE15]
 exact encN_F (v:=Vc.int v) ht T.n1 T.r1 T.t1
  (fun σ1 h1 f=>xFits (d+4) h1 (T.fr f ht) k3 hk (by rw[x1,x2,x3,x4,x5,x6];exact hw))
theorem xBit (d:Nat):SpBit (TW E (d+1) 41):=by rw[DE41];exact r01bit_F
theorem xBits (d:Nat):SpBits (TW E (d+2) 20):=by rw[DE20];exact bits_F (xBit d) (by decide)
theorem xBytes (d:Nat):SpBytes 5000 (TW E (d+1) 45):=by rw[DE45];exact r01bytes_F (by decide) (by decide)
theorem xRBy (d:Nat):SpRBy (TW E (d+2) 23):=by rw[DE23];exact rby_F (xBytes d)
theorem xWid (d:Nat):SpWid (TW E (d+1) 16):=by rw[DE16];exact wid_F (by decide)
theorem xBetwY (d:Nat):SpBtwY (TW E (d+3) 27):=by rw[DE27];exact betw_Fy (xWid (d+1)) (xBits d)
theorem xFree (d:Nat):SpFree (TW E (d+3) 24):=by rw[DE24];exact free_F (xBits d) (by decide)
theorem xAbov (d:Nat):SpAbov (TW E (d+3) 26):=by rw[DE26];exact abov_F (xBits d) (by decide)
theorem xFlg (d:Nat):SpFlg (TW E (d+1) 25):=by rw[DE25];exact flg_F
theorem xSm (d:Nat):SpSmB (TW E (d+1) 22):=by rw[DE22];exact hbytes_F
def SpGoodY (F:List V→H→Ans):Prop:=∀{σ:H} {q w:Nat} {u b:V} {L:List Nat} {inn mo:Bool},Atc σ q [.bool mo]→(inn || mo)=true→Wr σ w u L→Tidy σ→Bin L→L.length≤5000→By σ b (nI (padB L)) →
 ∃σ',F [.int .i64 (Int.ofNat 0),b,.bool inn,.ptr w 0,.ptr q 0] σ=some (.bool true,σ')∧Fr Nowhere σ σ'
def SpGoodN (F:List V→H→Ans):Prop:=∀{σ:H} {q:Nat} {d:V},Atc σ q [.bool false]→F [.int .i64 (Int.ofNat 13),.nils,.bool false,d,.ptr q 0] σ=some (.bool true,σ)
theorem xGoodY (d:Nat):SpGoodY (TW E (d+3) 28):=by
 intro σ q w u b L inn mo a1 a2 a3 a4 a5 a6 a7
 rw[DE28];exact good_y (xRBy (d+0)) (xSm (d+1)) a1 a2 a3 a4 a5 a6 a7
theorem xGoodN (d:Nat):SpGoodN (TW E (d+3) 28):=by
 intro σ q d' a1
 rw[DE28];exact good_n a1
def SpAwk (F:List V→H→Ans):Prop:=∀(σ:H),Tidy σ→∃σ',F [] σ=some (.bool true,σ')∧Fr Nowhere σ σ'
theorem xAwk (d:Nat):SpAwk (TW E (d+1) 11):=by
 intro σ ht
 obtain⟨ρ,hf,hr⟩:=hit1 (e:=eAw) (F:=BD E 600000 (TW E d) 11) (fits_of (e:=eAw) (ρ:=fun x=>x) (args:=[]) (σ:=σ) rfl Has.nil Inj.nil)
 exact⟨_,by rw[DE11,hr];rfl,Few.fr0 eAw_shape (by kernel_rfl) hf ht⟩
end
noncomputable section
theorem Wr.keep {S:Nat→Prop} {σ σ1:H} {w:Nat} {u:V} {L:List Nat} (h:Wr σ w u L) (f:Fr S σ σ1) (ht:Tidy σ) (n:∀b,Own1 w u b→¬S b):Wr σ1 w u L:=
 ⟨f.at_ h.at_ ht (n _ (.inl rfl)),h.d.fr f ht (fun b hb=>n b (.inr hb)),h.ne⟩
theorem Wr.lt {σ:H} {w:Nat} {u:V} {L:List Nat} (h:Wr σ w u L) (ht:Tidy σ) {b:Nat} (hb:Own1 w u b):b<σ.next:=hb.elim (fun e=>by rw[e];exact h.at_.lt ht) (fun e=>h.d.lt ht e)
structure Two (σ0 σ:H) (p:Nat) (x:V) (X:List Nat) (r:Nat) (y:V) (Y:List Nat):Prop where
 f:Fr (fun b=>σ0.next≤b) σ0 σ
 wx:Wr σ p x X
 wy:Wr σ r y Y
 xo:∀b,Own1 p x b→σ0.next≤b
 yo:∀b,Own1 r y b→σ0.next≤b
 dis:∀b,Own1 p x b→¬Own1 r y b
section
variable {σ0 σ σ1:H} {p r:Nat} {x y x1:V} {X Y X1:List Nat}
theorem Two.swap (h:Two σ0 σ p x X r y Y):Two σ0 σ r y Y p x X:=⟨h.f,h.wy,h.wx,h.yo,h.xo,fun b a c=>h.dis b c a⟩
theorem Two.tidy (h:Two σ0 σ p x X r y Y):Tidy σ:=h.f.tidy
theorem Two.step (h:Two σ0 σ p x X r y Y) (s:Wst σ p x σ1 x1 X1):Two σ0 σ1 p x1 X1 r y Y:=
 ⟨h.f.trans s.f (fun b _ e=>h.xo b e),s.wr,h.wy.keep s.f h.tidy (fun b a c=>h.dis b c a),
  fun b hb=>hb.elim (fun e=>h.xo b (.inl e)) (fun e=>(s.g b e).elim (fun e=>h.xo b (.inr e)) (fun e=>Nat.le_trans h.f.le e)),h.yo,
  fun b hb hy=>hb.elim (fun e=>h.dis b (.inl e) hy) (fun e=>(s.g b e).elim (fun e=>h.dis b (.inr e) hy) (fun e=>by have:=h.wy.lt h.tidy hy;omega))⟩
theorem Two.fr (h:Two σ0 σ p x X r y Y) (f:Fr Nowhere σ σ1):Two σ0 σ1 p x X r y Y:=
 ⟨h.f.trans f (fun _ _ e=>e.elim),h.wx.fr f h.tidy,h.wy.fr f h.tidy,h.xo,h.yo,h.dis⟩
end
def ResU (σ:H) (b:V) (rr:Int) (c:ConS) (v:Int):Prop:=(conW c v=true∧rr=Int.ofNat 0∧By σ b (nI (padB (encC c v)))∧∀q,Names b q→q<σ.next)∨(conW c v=false∧rr=Int.ofNat 13∧b = .nils)
theorem ResU.keep {σ0 σ:H} {b:V} {rr:Int} {c:ConS} {v:Int} (h:ResU σ0 b rr c v) (ht:Tidy σ0) (f:Fr (fun b=>σ0.next≤b) σ0 σ):ResU σ b rr c v:=by
 rcases h with ⟨a,e,y,n⟩|h
 ·exact .inl ⟨a,e,Src.fr y f ht (fun q hq hs=>by have:=n q hq;omega),fun q hq=>Nat.lt_of_lt_of_le (n q hq) f.le⟩
 ·exact .inr h
theorem ResU.one {σ:H} {b:V} {rr:Int} {c:ConS} {v:Int} (h:ResU σ b rr c v):b.one=true:=by
 rcases h with ⟨_,_,y,_⟩|⟨_,_,rfl⟩
 ·exact y.one
 ·rfl
def Pfx (mo out:Bool):List Nat:=if mo=true then [if out=true then 1 else 0] else []
theorem le_lt (a b:Int):leF a b=!ltF b a:=by
 rw[leF_eq,ltF_eq,Bool.eq_iff_iff]
 simp only[decide_eq_true_eq,Bool.not_eq_true',decide_eq_false_iff_not];omega
theorem enc0 (v:Int):encC uiC0 v=freeB v:=by
 unfold encC encI
 simp[uiC0]
theorem enc1 (mo:Bool) (lo v:Int):encC (uiC1 mo lo) v=Pfx mo (ltF v lo)++(if ltF v lo=true then freeB v else abovB (toU (v-lo))):=by
 unfold encC encI Pfx withinB uiC1
 simp only[le_lt]
 cases ltF v lo<;>cases mo<;>rfl
theorem enc2 (mo:Bool) (lo hi v:Int):encC (uiC2 mo lo hi) v=Pfx mo (ltF v lo || ltF hi v)++(if(ltF v lo || ltF hi v)=true then freeB v else bitsOf (widN 60 (toU (hi-lo))) (toU (v-lo))):=by
 unfold encC encI Pfx withinB uiC2
 simp only[le_lt]
 cases ltF v lo<;>cases ltF hi v<;>cases mo<;>rfl
theorem Bin.app {a b:List Nat} (h:Bin a) (k:Bin b):Bin (a++b):=fun c hc=>(List.mem_append.1 hc).elim (h c) (k c)
theorem putN_bin (x n:Nat):Bin (putN x n):=Bin.app (bitsOf_bin _ _) (bitsOf_bin _ _)
theorem encC_bin (c:ConS) (v:Int):Bin (encC c v):=by
 unfold encC encI
 refine Bin.app ?_ ?_
 ·split
  ·split<;>(intro b hb;simp at hb;omega)
  ·intro b hb;cases hb
 ·split
  ·exact bitsOf_bin _ _
  ·split<;>exact putN_bin _ _
section
variable {E:List (Nat × Blk)} {D:Den} {W:DrawFn} {N:Nat}
theorem good_any (hY:SpGoodY (D 28)) (hN:SpGoodN (D 28)) {σ:H} {q w:Nat} {u b:V} {rr:Int} {c:ConS} {v:Int} {inn:Bool} (aq:Atc σ q [.bool c.more]) (hi:withinB c.has c.hasLow c.hasHigh c.low c.high v=inn) (hr:ResU σ b rr c v) (hw:Wr σ w u (encC c v)) (ht:Tidy σ) :
  ∃σ',Fr Nowhere σ σ'∧∀κ:V→H→Ans,callvK D (.fn 28 [] [.ptr q 0]) [.int .i64 rr,b,.bool inn,.ptr w 0] σ κ=κ (.bool true) σ':=by
 rcases hr with ⟨a,rfl,y,_⟩|⟨a,rfl,rfl⟩
 ·obtain⟨σ',g,f⟩:=hY (inn:=inn) aq (by unfold conW at a;rw[hi]at a;rw[Bool.or_comm];exact a) hw ht (encC_bin c v) (Nat.le_trans (encC_len c v) (by decide)) y
  refine⟨σ',f,fun κ=>?_⟩
  show callK (D 28 ([]++[.int .i64 (Int.ofNat 0),b,.bool inn,.ptr w 0]++[.ptr q 0]) σ) κ=_
  simp only[List.nil_append,List.cons_append]
  rw[g];rfl
 ·unfold conW at a
  rw[hi,Bool.or_eq_false_iff]at a
  rw[a.1]at aq
  refine⟨σ,Fr.refl ht,fun κ=>?_⟩
  show callK (D 28 ([]++[.int .i64 (Int.ofNat 13),.nils,.bool inn,.ptr w 0]++[.ptr q 0]) σ) κ=_
  simp only[List.nil_append,List.cons_append]
  rw[a.2,hN aq];rfl
theorem law5_4 (hA:SpAwk (D 11)) (hY:SpGoodY (D 28)) (hN:SpGoodN (D 28)) {σ0 σ:H} {q p r:Nat} {x y b1 b2:V} {r1 r2:Int} {mo:Bool} {lo hi v:Int} (ht0:Tidy σ0) (aq:Atc σ0 q [.bool mo]) (h1:ResU σ0 b1 r1 (uiC1 mo lo) v) (h2:ResU σ0 b2 r2 (uiC2 mo lo hi) v) (h:Two σ0 σ p x (encC (uiC1 mo lo) v) r y (encC (uiC2 mo lo hi) v)) :
  ∃σ',T5_4 E D W v lo q 0 hi b1 r1 b2 r2 p 0 r 0 σ=some (.bool true,σ'):=by
 obtain⟨σ1,g1,f1⟩:=hA σ h.tidy
 have t1:=h.fr f1
 have lq:=aq.lt ht0
 obtain⟨σ2,f2,g2⟩:=good_any hY hN (inn:=leF lo v) (t1.f.at_ aq ht0 (by omega)) (by unfold withinB uiC1;simp) (h1.keep ht0 t1.f) t1.wx t1.tidy
 have t2:=t1.fr f2
 obtain⟨σ3,f3,g3⟩:=good_any hY hN (inn:=leF lo v&&leF v hi) (t2.f.at_ aq ht0 (by omega)) (by unfold withinB uiC2;simp) (h2.keep ht0 t2.f) t2.wy t2.tidy
 refine⟨σ3,?_⟩
 have k1:∀κ:Bool→H→Ans,joinB κ=joinB κ:=fun _=>rfl
 unfold T5_4
 cases hl:leF lo v with
 | true=>
  rw[hl]at g2 g3
  rw[Bool.true_and]at g3
  simp -implicitDefEqProofs only [↓rP,rA,Nat.reduceEqDiff,Nat.reduceLT,Nat.reduceLeDiff,↓g1,hl,↓g2,↓g3]
 | false=>
  rw[hl]at g2 g3
  rw[Bool.false_and]at g3
  simp -implicitDefEqProofs only [↓rP,rA,Nat.reduceEqDiff,Nat.reduceLT,Nat.reduceLeDiff,↓g1,hl,↓g2,↓g3]
theorem law5_3 (hF:SpFree (D 24)) (hB:SpBtwY (D 27)) {σ0 σ:H} {q p r:Nat} {x y b1 b2:V} {r1 r2:Int} {mo:Bool} {lo hi v:Int} {n:Nat} {X:List Nat} {K:Int→Int→Nat→Nat→Int→V→Int→V→Int→Nat→Nat→Nat→Nat→H→Ans} (hv:In64i v) (hn:toU (hi-lo)=n) (hs:n<2 ^ 60) (hd:ltF hi v=false→ltF v lo=false→toU (v-lo)≤n)
  (h:Two σ0 σ p x X r y (Pfx mo (ltF v lo || ltF hi v))) :
  ∃y' σ',T5_3 E D W K v lo (Int.ofNat n) q 0 hi b1 r1 b2 r2 p 0 r 0 σ=K v lo q 0 hi b1 r1 b2 r2 p 0 r 0 σ'∧Two σ0 σ' p x X r y' (encC (uiC2 mo lo hi) v):=by
 have hP:(Pfx mo (ltF v lo || ltF hi v)).length≤1:=by unfold Pfx;split<;>simp
 have us:=usubF v lo
 rw[enc2]
 unfold T5_3
 cases hl:ltF v lo with
 | true=>
  rw[hl,Bool.true_or]at h hP
  obtain⟨y',σ',g,s⟩:=hF hv h.wy h.tidy (by omega)
  refine⟨y',σ',?_,(h.swap.step s).swap⟩
  simp -implicitDefEqProofs only [↓rP,rA,Nat.reduceEqDiff,Nat.reduceLT,Nat.reduceLeDiff,↓g]
 | false=>
  cases hh:ltF hi v with
  | true=>
   rw[hl,hh]at h hP
   obtain⟨y',σ',g,s⟩:=hF hv h.wy h.tidy (by omega)
   refine⟨y',σ',?_,(h.swap.step s).swap⟩
   simp -implicitDefEqProofs only [↓rP,rA,Nat.reduceEqDiff,Nat.reduceLT,Nat.reduceLeDiff,↓g]
  | false=>
   rw[hl,hh]at h hP
   obtain⟨y',σ',g,s⟩:=hB σ r y _ (toU (v-lo)) n h.wy h.tidy (by omega) (hd hh hl) hs (Nat.le_trans (widN_le 60 n) (by decide))
   refine⟨y',σ',?_,by rw[hn];exact(h.swap.step s).swap⟩
   simp -implicitDefEqProofs only [↓rP,rA,Nat.reduceEqDiff,Nat.reduceLT,Nat.reduceLeDiff,us,↓g]
theorem law5_2 (hF:SpFree (D 24)) (hA:SpAbov (D 26)) {σ0 σ:H} {q p r:Nat} {x y b1 b2:V} {r1 r2 c:Int} {mo:Bool} {lo hi v:Int} {Y:List Nat} {K:Int→Int→Int→Nat→Nat→Int→V→Int→V→Int→Nat→Nat→Nat→Nat→H→Ans} (hv:In64i v)
  (h:Two σ0 σ p x (Pfx mo (ltF v lo)) r y Y) :
  ∃x' σ',T5_2 E D W K v lo c q 0 hi b1 r1 b2 r2 p 0 r 0 σ=K v lo c q 0 hi b1 r1 b2 r2 p 0 r 0 σ'∧Two σ0 σ' p x' (encC (uiC1 mo lo) v) r y Y:=by
 have hP:(Pfx mo (ltF v lo)).length≤1:=by unfold Pfx;split<;>simp
 have us:=usubF v lo
 rw[enc1]
 unfold T5_2
 cases hl:ltF v lo with
 | true=>
  rw[hl]at h hP
  obtain⟨y',σ',g,s⟩:=hF hv h.wx h.tidy (by omega)
  refine⟨y',σ',?_,h.step s⟩
  simp -implicitDefEqProofs only [↓rP,rA,Nat.reduceEqDiff,Nat.reduceLT,Nat.reduceLeDiff,↓g]
 | false=>
  rw[hl]at h hP
  obtain⟨y',σ',g,s⟩:=hA (toU_lt (v-lo)) h.wx h.tidy (by omega)
  refine⟨y',σ',?_,h.step s⟩
  simp -implicitDefEqProofs only [↓rP,rA,Nat.reduceEqDiff,Nat.reduceLT,Nat.reduceLeDiff,us,↓g]
end
def uiP0:List Nat:=[77,32,68,69,70,73,78,73,84,73,79,78,83,32,58,58,61,32,66,69,71,73,78,32,65,32,58,58,61,32,73,78,84,69,71,69,82,32,66,32,58,58,61,32,73,78,84,69,71,69,82,32,40]
def uiP1:List Nat:=[46,46,77,65,88]
def uiP2:List Nat:=[41,32,67,32,58,58,61,32,73,78,84,69,71,69,82,32,40]
def uiG (mo:Bool):List Nat:=match mo with
 | true=>[44,32,46,46,46]
 | false=>[]
theorem uiText_is (mo:Bool) (w1 w2:List Nat):((((((((uiP0++w1)++uiP1)++uiG mo)++uiP2)++w1)++[46,46])++w2)++uiG mo)++ubPost=uiText mo w1 w2:=by
 unfold uiP0 uiP1 uiP2 uiG uiText
 cases mo with
 | true=>unfold uiR1 uiR2;simp only[List.append_assoc,List.cons_append,List.nil_append]
 | false=>unfold uiR1 uiR2;simp only[List.append_assoc,List.cons_append,List.nil_append]
theorem numC_lt {v:Int} (h:In64 v):∀c∈numC v,c<256:=by
 obtain⟨m,ds,e,ok,_⟩:=numC_ok h (r:=[]) rfl rfl
 rw[e];exact numT_lt ok
theorem numC_len {v:Int} (h:In64 v):(numC v).length≤21:=by
 obtain⟨m,ds,e,ok,_⟩:=numC_ok h (r:=[]) rfl rfl
 rw[e]
 have:=ok.n19
 unfold numT
 split
 ·rw[List.length_cons];omega
 ·omega
theorem ui_tk (mo:Bool) {lo hi:Int} (ilo:In64 lo) (ihi:In64 hi) (N len:Nat):Tks (N+10) len (uiText mo (numC lo) (numC hi)) (uiToks mo len (numC lo) (numC hi))∧numI (numC lo)=lo∧numI (numC hi)=hi:=by
 cases mo with
 | false=>
  obtain⟨m2,d2,w2,ok2,i2⟩:=numC_ok ihi (r:=ubPost) rfl rfl
  obtain⟨m1',d1',w1',ok1',_⟩:=numC_ok ilo (r:=uiR2 false (numC hi)) rfl rfl
  obtain⟨m1,d1,w1,ok1,i1⟩:=numC_ok ilo (r:=uiR1 false (numC lo) (numC hi)) rfl rfl
  refine⟨?_,i1,i2⟩
  have e:=w1'.symm.trans w1
  rw[w1,w2]at ok1
  rw[w2]at ok1'
  rw[w1,w2]
  exact ui_toks false N len e ok1 ok1' ok2
 | true=>
  obtain⟨m2,d2,w2,ok2,i2⟩:=numC_ok ihi (r:=44::32::46::46::46::ubPost) rfl rfl
  obtain⟨m1',d1',w1',ok1',_⟩:=numC_ok ilo (r:=uiR2 true (numC hi)) rfl rfl
  obtain⟨m1,d1,w1,ok1,i1⟩:=numC_ok ilo (r:=uiR1 true (numC lo) (numC hi)) rfl rfl
  refine⟨?_,i1,i2⟩
  have e:=w1'.symm.trans w1
  rw[w1,w2]at ok1
  rw[w2]at ok1'
  rw[w1,w2]
  exact ui_toks true N len e ok1 ok1' ok2
theorem ui_and (c:Int):∃n:Nat,n<1099511627776∧andF .u64 c (Int.ofNat 1099511627775)=Int.ofNat n:=by
 have e:=andF_eq .u64 c (Int.ofNat 1099511627775)
 rw[BitVec.toNat_and,ofInt_nat]at e
 have le:(BitVec.ofInt (IntKind.bits .u64) c).toNat &&& 1099511627775 % 2 ^ IntKind.bits .u64≤1099511627775:=Nat.and_le_right
 generalize (BitVec.ofInt (IntKind.bits .u64) c).toNat &&& 1099511627775 % 2 ^ IntKind.bits .u64=n at e le
 exact⟨n,by omega,e.trans ((wrapF_eq .u64 _).symm.trans (wrapF_nat (k := .u64) (show n≤18446744073709551615 by omega)))⟩
theorem ui_rd {E:List (Nat × Blk)} {σ:H} {n k:Nat} {x v:V} {m:List V} (h:Src σ 1 n x m) (hv:m[k]? = some v) (κ:V→Ans):iaddrSK 1 x (Int.ofNat k) (fun b o=>ldK E σ b o κ)=κ v:=by
 have hk:k<m.length:=(List.getElem?_eq_some_iff.1 hv).1
 rw[h.length]at hk
 rcases h with ⟨_,_,rfl⟩|⟨b,o,c,L,rfl,ha,hl,rfl⟩
 ·cases hv
 ·rw[iaddrSK_lt (by omega)]
  refine ldK_get ha ?_
  rw[List.getElem?_take_of_lt (by omega),List.getElem?_drop]at hv
  rw[←hv]
  show L[o+k*1]? = _
  rw[Nat.mul_one]
theorem enc_any {F:List V→H→Ans} (hX:SpEncX F) (hR:SpEncR F) {n0:Nat} {σ:H} {az:List (List Nat)} {rs:List Nat} {nm:BS} {u rv lv:V} {mo:Bool} {lo hi v:Int} {k:Nat} {c:ConS} (ht:Tidy σ) (hs:TbS n0 σ az rs (uiTl mo lo hi) u rv lv) (hc:(uiCs mo lo hi)[k]? = some c) (hu:UiIn lo hi v) :
  ∃b rr σ',F [.agg [.str nm,u,rv,lv],.int .i64 (Int.ofNat k),.agg (intC v)] σ=some (.tup [b,.int .i64 rr],σ')∧Fr Nowhere σ σ'∧ResU σ' b rr c v:=by
 cases hw:conW c v with
 | true=>
  obtain⟨b,σ',g,n,f⟩:=hX (nm:=nm) ht hs hc hu hw
  exact⟨b,_,σ',g,f,.inl ⟨hw,rfl,n.by_,fun q hq=>n.1.lt f.tidy hq⟩⟩
 | false=>
  obtain⟨σ',g,f⟩:=hR (nm:=nm) ht hs hc hw
  exact⟨.nils,_,σ',g,f,.inr ⟨hw,rfl,rfl⟩⟩
theorem two_new {σ:H} (ht:Tidy σ):∃σ1 σ2,newB σ (.cells [.nils])=σ1∧newB σ1 (.cells [.nils])=σ2∧Two σ σ2 σ.next .nils [] σ1.next .nils []:=by
 obtain⟨σ1,e1,f1,a1,n1⟩:=mk_new ht [.nils]
 obtain⟨σ2,e2,f2,a2,n2⟩:=mk_new f1.tidy [.nils]
 refine⟨σ1,σ2,e1,e2,(f1.trans f2 (fun _ _ h=>h)).mono (fun _ _ h=>h.elim),⟨f2.at_ a1 f1.tidy (fun h=>h),Dst.nil _ _,fun h=>h⟩,⟨a2,Dst.nil _ _,fun h=>h⟩,?_,?_,?_⟩
 ·rintro b (e|e)
  ·omega
  ·exact e.elim
 ·rintro b (e|e)
  ·omega
  ·exact e.elim
 ·rintro b (e|e) (e'|e')
  ·omega
  ·exact e'.elim
  ·exact e.elim
  ·exact e.elim
theorem bits1 (c:Bool):bitsOf 1 (if c=true then 1 else 0)=Pfx true c:=by cases c<;>rfl
theorem flag_step {D:Den} (hB:SpBits (D 20)) {σ:H} {w:Nat} {u:V} (h:Wr σ w u []) (ht:Tidy σ) (c:Bool):∃u' σ',D 20 [.ptr w 0,.int .u64 (Int.ofNat (if c=true then 1 else 0)),.int .i64 (Int.ofNat 1)] σ=some (.tup [],σ')∧Wst σ w u σ' u' (Pfx true c):=by
 obtain⟨u',σ',g,s⟩:=hB σ w u [] (if c=true then 1 else 0) 1 h ht (by decide) (by split<;>omega) (by decide)
 rw[bits1,List.nil_append]at s
 exact⟨u',σ',g,s⟩
section
variable {E:List (Nat × Blk)} {D:Den} {W:DrawFn} {N:Nat}
theorem law5_1 (hNu:SpNumber (D 14)) (hTb:SpTable N (D 13)) (hX:SpEncX (D 15)) (hR:SpEncR (D 15)) (hFr:SpFree (D 24)) (hRB:SpRBy (D 23)) (hSm:SpSmB (D 22)) (hFl:SpFlg (D 25)) (hBi:SpBits (D 20)) (hN:100≤N) {σ:H} (ht:Tidy σ) {q n:Nat} {v lo hi:Int} {mo:Bool} (aq:Atc σ q [.bool mo]) (hu:UiIn lo hi v) {K:Int→Int→Int→Nat→Nat→Int→V→Int→V→Int→Nat→Nat→Nat→Nat→H→Ans} :
  ∃σ0 σ' b1 r1 b2 r2 p r x y,T5_1 E D W K v lo (Int.ofNat n) q 0 hi (ofN (uiG mo)) σ=K v lo (Int.ofNat n) q 0 hi b1 r1 b2 r2 p 0 r 0 σ'∧Tidy σ0∧Atc σ0 q [.bool mo]∧ResU σ0 b1 r1 (uiC1 mo lo) v∧ResU σ0 b2 r2 (uiC2 mo lo hi) v∧Two σ0 σ' p x (Pfx mo (ltF v lo)) r y (Pfx mo (ltF v lo || ltF hi v)):=by
 have ilo:In64 lo:=hu.lo
 have ihi:In64 hi:=hu.hi
 have lt1:=numC_lt ilo
 have lt2:=numC_lt ihi
 have ln1:=numC_len ilo
 have ln2:=numC_len ihi
 obtain⟨N',hN'⟩:∃k,N=k+10:=⟨N-10,by omega⟩
 have hp0:∀c∈uiP0,c<256:=by decide
 have hp1:∀c∈uiP1,c<256:=by decide
 have hp2:∀c∈uiP2,c<256:=by decide
 have hpe:∀c∈ubPost,c<256:=by decide
 have hg:∀c∈uiG mo,c<256:=by cases mo<;>decide
 have hdd:∀c∈([46,46]:List Nat),c<256:=by decide
 have app:∀{l m:List Nat},(∀c∈l,c<256)→(∀c∈m,c<256)→∀c∈l++m,c<256:=fun h1 h2 c hc=>(List.mem_append.1 hc).elim (h1 c) (h2 c)
 have lp0:uiP0.length=53:=rfl
 have lp1:uiP1.length=5:=rfl
 have lp2:uiP2.length=17:=rfl
 have lpe:ubPost.length=5:=rfl
 have lg:(uiG mo).length≤5:=by cases mo<;>decide
 obtain⟨σ1,g1,f1⟩:=hNu σ lo ht ilo
 obtain⟨σ2,g2,f2⟩:=hNu σ1 lo f1.tidy ilo
 obtain⟨σ3,g3,f3⟩:=hNu σ2 hi f2.tidy ihi
 have p0:BS.mk 53 6790579354708687386894014949640630821001562229586092229830234755865668246696712717036207460153204753394099485706898702302715981=ofN uiP0:=by decide +kernel
 have p1:BS.mk 5 379052699182=ofN uiP1:=by decide +kernel
 have p2:BS.mk 17 13654257146177974277951514342210580717609=ofN uiP2:=by decide +kernel
 have pd:BS.mk 2 11822=ofN [46,46]:=by decide +kernel
 have pe:BS.mk 5 293370929193=ofN ubPost:=by decide +kernel
 obtain⟨t1,ht1⟩:∃t,t=uiP0++numC lo:=⟨_,rfl⟩
 have b1:∀c∈t1,c<256:=by rw[ht1];exact app hp0 lt1
 have l1:t1.length≤53+21:=by rw[ht1,List.length_append];omega
 obtain⟨t2,ht2⟩:∃t,t=t1++uiP1:=⟨_,rfl⟩
 have b2:∀c∈t2,c<256:=by rw[ht2];exact app b1 hp1
 have l2:t2.length≤100:=by rw[ht2,List.length_append];omega
 obtain⟨t3,ht3⟩:∃t,t=t2++uiG mo:=⟨_,rfl⟩
 have b3:∀c∈t3,c<256:=by rw[ht3];exact app b2 hg
 have l3:t3.length≤110:=by rw[ht3,List.length_append];omega
 obtain⟨t4,ht4⟩:∃t,t=t3++uiP2:=⟨_,rfl⟩
 have b4:∀c∈t4,c<256:=by rw[ht4];exact app b3 hp2
 have l4:t4.length≤140:=by rw[ht4,List.length_append];omega
 obtain⟨t5,ht5⟩:∃t,t=t4++numC lo:=⟨_,rfl⟩
 have b5:∀c∈t5,c<256:=by rw[ht5];exact app b4 lt1
 have l5:t5.length≤170:=by rw[ht5,List.length_append];omega
 obtain⟨t6,ht6⟩:∃t,t=t5++[46,46]:=⟨_,rfl⟩
 have b6:∀c∈t6,c<256:=by rw[ht6];exact app b5 hdd
 have l6:t6.length≤180:=by rw[ht6,List.length_append];simp only[List.length_cons,List.length_nil];omega
 obtain⟨t7,ht7⟩:∃t,t=t6++numC hi:=⟨_,rfl⟩
 have b7:∀c∈t7,c<256:=by rw[ht7];exact app b6 lt2
 have l7:t7.length≤210:=by rw[ht7,List.length_append];omega
 obtain⟨t8,ht8⟩:∃t,t=t7++uiG mo:=⟨_,rfl⟩
 have b8:∀c∈t8,c<256:=by rw[ht8];exact app b7 hg
 have l8:t8.length≤220:=by rw[ht8,List.length_append];omega
 obtain⟨tx,htx⟩:∃t,t=t8++ubPost:=⟨_,rfl⟩
 have hall:∀c∈tx,c<256:=by rw[htx];exact app b8 hpe
 have hlen:(ofN tx).len≤3000:=by rw[ofN_len,htx,List.length_append];omega
 have q1:∀κ:BS→Ans,catK (BS.mk 53 6790579354708687386894014949640630821001562229586092229830234755865668246696712717036207460153204753394099485706898702302715981) (ofN (numC lo)) κ=κ (ofN t1):=fun κ=>by rw[p0,ht1];exact catK_ofN hp0 lt1 (by omega) κ
 have q2:∀κ:BS→Ans,catK (ofN t1) (BS.mk 5 379052699182) κ=κ (ofN t2):=fun κ=>by rw[p1,ht2];exact catK_ofN b1 hp1 (by omega) κ
 have q3:∀κ:BS→Ans,catK (ofN t2) (ofN (uiG mo)) κ=κ (ofN t3):=fun κ=>by rw[ht3];exact catK_ofN b2 hg (by omega) κ
 have q4:∀κ:BS→Ans,catK (ofN t3) (BS.mk 17 13654257146177974277951514342210580717609) κ=κ (ofN t4):=fun κ=>by rw[p2,ht4];exact catK_ofN b3 hp2 (by omega) κ
 have q5:∀κ:BS→Ans,catK (ofN t4) (ofN (numC lo)) κ=κ (ofN t5):=fun κ=>by rw[ht5];exact catK_ofN b4 lt1 (by omega) κ
 have q6:∀κ:BS→Ans,catK (ofN t5) (BS.mk 2 11822) κ=κ (ofN t6):=fun κ=>by rw[pd,ht6];exact catK_ofN b5 hdd (by simp only[List.length_cons,List.length_nil];omega) κ
 have q7:∀κ:BS→Ans,catK (ofN t6) (ofN (numC hi)) κ=κ (ofN t7):=fun κ=>by rw[ht7];exact catK_ofN b6 lt2 (by omega) κ
 have q8:∀κ:BS→Ans,catK (ofN t7) (ofN (uiG mo)) κ=κ (ofN t8):=fun κ=>by rw[ht8];exact catK_ofN b7 hg (by omega) κ
 have q9:∀κ:BS→Ans,catK (ofN t8) (BS.mk 5 293370929193) κ=κ (ofN tx):=fun κ=>by rw[pe,htx];exact catK_ofN b8 hpe (by omega) κ
 have etx:tx=uiText mo (numC lo) (numC hi):=by
  rw[htx,ht8,ht7,ht6,ht5,ht4,ht3,ht2,ht1];exact uiText_is mo _ _
 have tk:Tks N (ofN tx).len (ofN tx).nats (uiToks mo (ofN tx).len (numC lo) (numC hi)):=by
  rw[ofN_nats hall,hN']
  rw[etx];exact(ui_tk mo ilo ihi N' _).1
 have hmod:=ui_mod mo (ofN tx).len (numC lo) (numC hi)
 obtain⟨_,i1,i2⟩:=ui_tk mo ilo ihi N' 0
 rw[i1,i2]at hmod
 obtain⟨u,rv,lv,σ4,g4,s4,f4⟩:=hTb σ3 _ _ _ _ _ f3.tidy hlen tk hmod (ui_ok mo lo hi) (ui_roots (mo:=mo) hu.c)
 have s4:TbS σ3.next σ4 [[65],[66],[67]] [0,1,2] (uiTl mo lo hi) u rv lv:=s4
 obtain⟨o1,o2,o3⟩:=s4.one4
 obtain⟨b0,r0,σ5,g5,f5,h5⟩:=enc_any hX hR (nm:=ofN [77]) (k:=0) (c:=uiC0) f4.tidy s4 rfl hu
 have s5:=s4.fr0 f5 f4.tidy
 obtain⟨c1,r1,σ6,g6,f6,h6⟩:=enc_any hX hR (nm:=ofN [77]) (k:=1) (c:=uiC1 mo lo) f5.tidy s5 rfl hu
 have s6:=s5.fr0 f6 f5.tidy
 obtain⟨c2,r2,σ7,g7,f7,h7⟩:=enc_any hX hR (nm:=ofN [77]) (k:=2) (c:=uiC2 mo lo hi) f6.tidy s6 rfl hu
 have rd0:∀κ:V→Ans,iaddrSK 1 rv (Int.ofNat 0) (fun b o=>ldK E σ4 b o κ)=κ (.int .i64 (Int.ofNat 0)):=fun κ=>ui_rd s4.r rfl κ
 have rd1:∀κ:V→Ans,iaddrSK 1 rv (Int.ofNat 1) (fun b o=>ldK E σ5 b o κ)=κ (.int .i64 (Int.ofNat 1)):=fun κ=>ui_rd s5.r rfl κ
 have rd2:∀κ:V→Ans,iaddrSK 1 rv (Int.ofNat 2) (fun b o=>ldK E σ6 b o κ)=κ (.int .i64 (Int.ofNat 2)):=fun κ=>ui_rd s6.r rfl κ
 have slr:∀κ:Nat→Ans,slenK rv κ=κ 3:=fun κ=>s4.r.slen
 have up:∀{σ σ1:H},Fr Nowhere σ σ1→Fr (fun b=>σ.next≤b) σ σ1:=fun f=>f.mono (fun _ _ h=>h.elim)
 obtain⟨er,y5,n5⟩:r0=Int.ofNat 0∧By σ5 b0 (nI (padB (encC uiC0 v)))∧∀q,Names b0 q→q<σ5.next:=by
  rcases h5 with h|h
  ·exact h.2
  ·exact Bool.noConfusion (show true=false from h.1)
 subst er
 rw[enc0]at y5
 obtain⟨σ8,e8,f8,a8,n8⟩:=mk_new f7.tidy [.nils]
 have w8:Wr σ8 σ7.next .nils []:=⟨a8,Dst.nil _ _,fun h=>h⟩
 obtain⟨u9,σ9,g9,w9⟩:=hFr hu.v w8 f8.tidy (by decide)
 rw[List.nil_append]at w9
 obtain⟨vb,σ10,g10,n10,f10⟩:=hRB σ9 σ7.next u9 (freeB v) w9.wr w9.f.tidy (putN_bin _ _) (by unfold freeB;rw[putN_len];have:=lenS_range v;omega)
 have own9:∀b,Own1 σ7.next .nils b→σ7.next≤b:=fun b hb=>hb.elim (fun e=>by omega) (fun e=>e.elim)
 have f79:Fr (fun b=>σ7.next≤b) σ7 σ9:=(up f8).trans w9.f (fun b _ e=>own9 b e)
 have f70:Fr (fun b=>σ7.next≤b) σ7 σ10:=f79.trans f10 (fun _ _ h=>h.elim)
 have h6':=h6.keep f6.tidy (up f7)
 have f57:=f6.trans f7 (fun _ _ h=>h)
 have y7:=y5.fr f57 f5.tidy
 have le57:=f57.le
 have y10:By σ10 b0 (nI (padB (freeB v))):=Src.fr y7 f70 f7.tidy (fun b hb hs=>by have:=n5 b hb;omega)
 have g11:=hSm y10 n10.by_
 obtain⟨σ11,σ12,e11,e12,t0⟩:=two_new f10.tidy
 have k1:=h6'.keep f7.tidy f70
 have k2:=h7.keep f7.tidy f70
 have f04:Fr Nowhere σ σ4:=((f1.trans f2 (fun _ _ h=>h)).trans f3 (fun _ _ h=>h)).trans f4 (fun _ _ h=>h)
 have f07:Fr Nowhere σ σ7:=(f04.trans f5 (fun _ _ h=>h)).trans f57 (fun _ _ h=>h)
 have lq:=aq.lt ht
 have le07:=f07.le
 have a10:Atc σ10 q [.bool mo]:=f70.at_ (f07.at_ aq ht (fun h=>h)) f7.tidy (by omega)
 have le70:=f70.le
 have a12:Atc σ12 q [.bool mo]:=t0.f.at_ a10 f10.tidy (by omega)
 have i0:(uiMd mo lo hi).nm=[77]:=rfl
 rw[i0]at g4
 unfold tbC at g4
 have dl:decide ([mkTy (uiNd uiC0),mkTy (uiNd (uiC1 mo lo)),mkTy (uiNd (uiC2 mo lo hi))].length≤120)=true:=rfl
 rw[dl]at g4
 unfold intC vc at g5 g6 g7
 have bo:=n10.1.one
 have c1o:=h6.one
 have c2o:=h7.one
 cases mo with
 | false=>
  refine⟨σ10,σ12,c1,r1,c2,r2,_,_,.nils,.nils,?_,f10.tidy,a10,k1,k2,t0⟩
  unfold T5_1
  simp -implicitDefEqProofs only [↓rP,rA,Nat.reduceEqDiff,Nat.reduceLT,Nat.reduceLeDiff,↓g1,↓q1,↓q2,↓q3,↓q4,↓g2,↓q5,↓q6,↓g3,↓q7,↓q8,↓q9,↓g4,o1,o2,o3,↓slr,↓rd0,↓g5,↓rd1,↓g6,↓rd2,↓g7,↓e8,↓g9,↓g10,↓rtOne_of bo,↓g11,↓e11,↓e12,↓ldK_is a12]
 | true=>
  have gf:=hFl σ12 (ltF v lo)
  obtain⟨x',σ13,g13,s13⟩:=flag_step hBi t0.wx t0.tidy (ltF v lo)
  have t1:=t0.step s13
  have gf2:=hFl σ13 (ltF v lo || ltF hi v)
  obtain⟨y',σ14,g14,s14⟩:=flag_step hBi t1.wy t1.tidy (ltF v lo || ltF hi v)
  have t2:=(t1.swap.step s14).swap
  refine⟨σ10,σ14,c1,r1,c2,r2,_,_,x',y',?_,f10.tidy,a10,k1,k2,t2⟩
  unfold T5_1
  cases hl:ltF v lo with
  | true=>
   rw[hl]at gf g13 gf2 g14
   rw[Bool.true_or]at gf2 g14
   rw[if_pos rfl]at gf g13 gf2 g14
   simp -implicitDefEqProofs only [↓rP,rA,Nat.reduceEqDiff,Nat.reduceLT,Nat.reduceLeDiff,↓g1,↓q1,↓q2,↓q3,↓q4,↓g2,↓q5,↓q6,↓g3,↓q7,↓q8,↓q9,↓g4,o1,o2,o3,↓slr,↓rd0,↓g5,↓rd1,↓g6,↓rd2,↓g7,↓e8,↓g9,↓g10,↓rtOne_of bo,↓g11,↓e11,↓e12,↓ldK_is a12,hl,↓gf,↓g13,↓gf2,↓g14]
  | false=>
   rw[hl]at gf g13 gf2 g14
   rw[Bool.false_or]at gf2 g14
   simp -implicitDefEqProofs only [↓rP,rA,Nat.reduceEqDiff,Nat.reduceLT,Nat.reduceLeDiff,↓g1,↓q1,↓q2,↓q3,↓q4,↓g2,↓q5,↓q6,↓g3,↓q7,↓q8,↓q9,↓g4,o1,o2,o3,↓slr,↓rd0,↓g5,↓rd1,↓g6,↓rd2,↓g7,↓e8,↓g9,↓g10,↓rtOne_of bo,↓g11,↓e11,↓e12,↓ldK_is a12,hl,↓gf,↓g13,↓gf2,↓g14]
theorem law5_F (hNu:SpNumber (D 14)) (hTb:SpTable N (D 13)) (hX:SpEncX (D 15)) (hR:SpEncR (D 15)) (hFr:SpFree (D 24)) (hAb:SpAbov (D 26)) (hBt:SpBtwY (D 27)) (hRB:SpRBy (D 23)) (hSm:SpSmB (D 22)) (hFl:SpFlg (D 25)) (hBi:SpBits (D 20)) (hAw:SpAwk (D 11)) (hGY:SpGoodY (D 28)) (hGN:SpGoodN (D 28)) (hN:100≤N) {σ:H} (ht:Tidy σ) {v low sp:Int} (hv:In64i v) (hlow:In64i low) (mo:Bool) :
  ∃σ',F5 E D W N [.int .i64 v,.int .i64 low,.int .u64 sp,.bool mo] σ=some (.bool true,σ'):=by
 obtain⟨n,hn,en⟩:=ui_and sp
 obtain⟨lo,hlo⟩:∃lo,lo=low / 4:=⟨_,rfl⟩
 have e2:shrF .i64 low 2=lo:=by rw[shr_i64 _ (by decide),hlo];rfl
 obtain⟨l1,l2⟩:=hlow
 have lo1 : -2305843009213693952≤lo:=by omega
 have lo2:lo≤2305843009213693951:=by omega
 obtain⟨hi,hhi⟩:∃hi:Int,hi=lo+n:=⟨_,rfl⟩
 have e3:wrapF .i64 (Int.ofNat n)=Int.ofNat n:=wrapF_nat (show n≤9223372036854775807 by omega)
 have e4:addF .i64 lo (Int.ofNat n)=hi:=by
  rw[hhi]
  show wrapF .i64 (lo+(n:Int))=_
  exact wrap64 (by omega) (by omega)
 have hu:UiIn lo hi v:=by
  refine⟨by rw[ltF_eq];exact decide_eq_false (by omega),?_,hv,⟨by omega,by omega⟩,⟨by omega,by omega⟩⟩
  have:=toU_nat (z:=hi-lo) (by omega) (by omega)
  omega
 have hsn:toU (hi-lo)=n:=by
  have:=toU_nat (z:=hi-lo) (by omega) (by omega)
  omega
 obtain⟨σ1,e1,f1,a1,n1⟩:=mk_new ht [.bool mo]
 have e1:newB σ (.cells (V.cells (.bool mo)))=σ1:=e1
 obtain⟨σ2,σ3,b1,r1,b2,r2,p,r,x,y,g3,t2,a2,k1,k2,w3⟩:=law5_1 (E:=E) (W:=W) (K:=J5_2 E D W N) hNu hTb hX hR hFr hRB hSm hFl hBi hN f1.tidy a1 hu (n:=n)
 obtain⟨x4,σ4,g4,w4⟩:=law5_2 (E:=E) (W:=W) (K:=J5_3 E D W N) (q:=σ.next) (b1:=b1) (b2:=b2) (r1:=r1) (r2:=r2) (c:=Int.ofNat n) (hi:=hi) hFr hAb hv w3
 obtain⟨y5,σ5,g5,w5⟩:=law5_3 (E:=E) (W:=W) (K:=J5_4 E D W N) (q:=σ.next) (b1:=b1) (b2:=b2) (r1:=r1) (r2:=r2) hFr hBt hv hsn (by omega) (fun h1 h2=>by
  rw[ltF_eq]at h1 h2
  have h1:=of_decide_eq_false h1
  have h2:=of_decide_eq_false h2
  obtain⟨v1,v2⟩:=hv
  have:=toU_nat (z:=v-lo) (by omega) (by omega)
  omega) w4
 obtain⟨σ6,g6⟩:=law5_4 (E:=E) (W:=W) hAw hGY hGN t2 a2 k1 k2 w5
 refine⟨σ6,?_⟩
 have t0:T5_0 E D W (J5_1 E D W N) v low sp mo σ=J5_1 E D W N v lo (Int.ofNat n) σ.next 0 hi (ofN (uiG mo)) σ1:=by
  unfold T5_0
  cases mo with
  | true=>
   have pT:BS.mk 5 198343270444=ofN (uiG true):=by decide +kernel
   have ho:allOne (V.cells (.bool true))=true:=rfl
   simp -implicitDefEqProofs only [↓rP,rA,Nat.reduceEqDiff,Nat.reduceLT,Nat.reduceLeDiff,↓e1,ho,↓ldK_is a1,en,e2,e3,e4,pT]
  | false=>
   have pT:BS.mk 0 0=ofN (uiG false):=by decide +kernel
   have ho:allOne (V.cells (.bool false))=true:=rfl
   simp -implicitDefEqProofs only [↓rP,rA,Nat.reduceEqDiff,Nat.reduceLT,Nat.reduceLeDiff,↓e1,ho,↓ldK_is a1,en,e2,e3,e4,pT]
 exact t0.trans (g3.trans (g4.trans (g5.trans g6)))
end
theorem ui_law {E:List (Nat × Blk)} {v low sp:Int} (hv:In64i v) (hlow:In64i low) (mo:Bool):okB (F5 E (TW E 59) (drawW E (TW E 59)) 600000 [.int .i64 v,.int .i64 low,.int .u64 sp,.bool mo] ⟨100,[]⟩)=true:=by
 have ht:Tidy ⟨100,[]⟩:=fun _ _=>rfl
 obtain⟨σ',h⟩:=law5_F (E:=E) (D:=TW E 59) (W:=drawW E (TW E 59)) (N:=600000) (xNumber 38) (xTable 38) (xEnc 51) (xEncR 51) (xFree 56) (xAbov 56) (xBetwY 56) (xRBy 57) (xSm 58) (xFlg 58) (xBits 57) (xAwk 58) (xGoodY 56) (xGoodN 56) (by decide) ht hv hlow mo (sp:=sp)
 rw[h];rfl
end
end Go.Proofs.YtgjjnbddbbhloaaGreatDoor
set_option maxHeartbeats 0
namespace Go.Proofs.YtgjjnbddbbhloaaGreatDoor.uperIntegers
open Go
theorem k_inPlace:(Rows.uperIntegersRow.inPlace==Tryz.pinned.checked.prog.inPlace 5)=true:=by kernel_rfl
theorem k_unfollowed:(Rows.uperIntegersRow.unfollowed==Tryz.pinned.checked.prog.unfollowed 5)=true:=by kernel_rfl
theorem k_recurses:(Rows.uperIntegersRow.recurses==Tryz.pinned.checked.prog.recurses 5)=true:=by kernel_rfl
theorem k_varsNamed:(Rows.uperIntegersRow.named==Tryz.pinned.checked.prog.varsNamed 5)=true:=by kernel_rfl
end Go.Proofs.YtgjjnbddbbhloaaGreatDoor.uperIntegers
