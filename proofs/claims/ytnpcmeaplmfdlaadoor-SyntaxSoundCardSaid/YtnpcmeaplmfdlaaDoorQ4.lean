/- What the last text leans on, part 5 of 7: merged out of smaller texts. No condition. -/
import Derived.Shelf.Strconv.ParseIntPublic10
import Derived.Test.YtnpcmeaplmfdlaaDoorQ3
open Int renaming ofNat -> AA
open Nat renaming reduceLeDiff -> AB,reduceEqDiff -> AD,reduceLT -> AE,le_refl -> AG,le_trans -> AN,add -> AU,ble -> Ab,lt_or_ge -> Ad,beq -> Ag,ble_eq -> Ai,eq_of_beq_eq_true -> BO,zero_add -> B2,zero_le -> CD,blt_eq -> CK,blt -> Cf,lt_of_lt_of_le -> Cz,le_succ -> D3,beq_refl -> EU,mod_eq_of_lt -> Ew,mul_one -> FC,min -> Fz,le_add_right -> GD,mul -> GY,le_succ_of_le -> HE,sub_zero -> L5,add_zero -> L6,succ_le_succ -> UI,pow_le_pow_right -> Ww,min_eq_left -> aq,succ_pos -> eI
open Bool renaming and_eq_true -> AF,or_eq_false_iff -> BN,and_true -> Be,or_eq_true -> Bg,true_and -> CQ,false_eq_true -> Cd,false_and -> EW,eq_false_iff -> FP,not_true -> Hj,or_false -> JK,not_eq_true -> L9,not_false -> Ra,and_false -> Rb
open List renaming length_cons -> AM,getElem?_eq_getElem -> AY,length_drop -> Aa,getElem?_eq_none -> Af,mem_cons_of_mem -> Ah,mem_cons_self -> As,length_append -> Aw,length_nil -> A0,getD_eq_getElem?_getD -> BA,mem_cons -> BF,replicate -> BT,mem_of_mem_drop -> Bf,eq_nil_of_length_eq_zero -> Bh,getElem?_map -> Bk,map_cons -> B3,getElem?_drop -> CL,mem_singleton -> Cc,length_take -> Cl,drop_drop -> C5,append_assoc -> DD,getElem?_take -> DN,mem_of_mem_take -> D4,mem_of_getElem? -> D5,all_eq_true -> D6,drop_zero -> EV,length_map -> Ea,append_nil -> Eb,not_mem_nil -> Ey,ext_getElem? -> FO,mem_append -> G1,length -> Ij,take_of_length_le -> I0,forall_mem_cons -> LF,map_nil -> L7,drop_eq_getElem_cons -> MA,mem_iff_getElem? -> TS,getElem_mem -> UK,all_cons -> Vp,map_append -> au,drop_succ_cons -> bE,drop_take -> nM
set_option linter.all false
namespace Go.Og
noncomputable section
theorem ID {E:EB} {D:BB} {Z:H} {b off n:Nat} {l cs:List V} {x y:AO} {e:Bt} (ht:Ci Z) (h:DZ Z b l) (hx:CV e x = .ptr b off) (hy:(CV e y).cells=cs) (hc:(Ag cs.length n&&Ab (off+n) l.length&&BJ cs)=true) :
  ∃Z',EO E D (.store n x y) e Z=some (.dead,Z')/\Fr (fun k=>k=b) Z Z'/\DZ Z' b (F0 l off cs):=by
 have hl:look Z.bl b=some (.cells l):=by rw[<-BH];exact h
 refine⟨Z.set b (.cells (F0 l off cs)),?_,⟨fun k hk=>?_,AG _,fun k hk hn=>?_⟩,?_⟩
 ·show (match CV e x with
   | .ptr b off=>match look Z.bl b with
    | some (.cells l)=>if(Ag (CV e y).cells.length n&&Ab (off+n) l.length&&BJ (CV e y).cells)=true then some (V.dead,Z.set b (.cells (F0 l off (CV e y).cells)))else none
    | _=>none
   | _=>none)=_
  rw[hx]
  simp only[hl]
  rw[hy,if_pos hc]
 ·have hk:Z.next<=k:=hk
  have:=h.lt ht
  show Bl (KG Z.bl b _) k=none
  rw[BH,HJ,if_neg (by omega),<-BH]
  exact ht k hk
 ·show Bl (KG Z.bl b _) k=_
  rw[BH,HJ,if_neg (fun e=>hn e.symm),BH]
 ·show Bl (KG Z.bl b _) b=_
  rw[BH,HJ,if_pos rfl,hl];rfl
end
noncomputable section
section
variable {E:EB} {D:BB} {Z Zc Z':H} {n i:Nat} {S:Nat->Prop} {d:Option Nat} {o:EK} {g:Option (Nat × Bool)} {l:List BR} {anc:Nat} {lk:List Nat} {pl:List DP} {e env:Bt} {nx am:Nat} {ss:List (EB)} {ks:List Nat} {ls:List (Nat × EK × Bt × V)}
theorem qI (v:V) (hw:BZ (restr lk e) g=some true) (hc:o.cls = .p) (hv:BU o (restr lk e)=some v) (k:He E D Z n (i+1) S l pl ⟨Cb e d v,nx,ss,ks,am,ls⟩ env Z'):He E D Z n i S (⟨d,o,g⟩::l) (⟨anc,lk⟩::pl) ⟨e,nx,ss,ks,am,ls⟩ env Z':=by
 obtain⟨s',h1,h2,h3⟩:=k
 refine⟨s',?_,h2,h3⟩
 have h:Dd E D Z.next n i ⟨d,o,g⟩ ⟨anc,lk⟩ ⟨e,nx,ss,ks,am,ls⟩=some ⟨Cb e d v,nx,ss,ks,am,ls⟩:=by unfold Dd;simp only[hw,hc,hv]
 show (match Dd E D Z.next n i ⟨d,o,g⟩ ⟨anc,lk⟩ ⟨e,nx,ss,ks,am,ls⟩with | none=>none | some s'=>B6 E D Z.next n (i+1) l pl s')=_
 rw[h];exact h1
theorem Yc (hw:BZ (restr lk e) g=some false) (k:He E D Z n (i+1) S l pl ⟨Cb e d Dn,nx,ss,ks,am,ls⟩ env Z'):He E D Z n i S (⟨d,o,g⟩::l) (⟨anc,lk⟩::pl) ⟨e,nx,ss,ks,am,ls⟩ env Z':=by
 obtain⟨s',h1,h2,h3⟩:=k
 refine⟨s',?_,h2,h3⟩
 have h:Dd E D Z.next n i ⟨d,o,g⟩ ⟨anc,lk⟩ ⟨e,nx,ss,ks,am,ls⟩=some ⟨Cb e d Dn,nx,ss,ks,am,ls⟩:=by unfold Dd;simp only[hw]
 show (match Dd E D Z.next n i ⟨d,o,g⟩ ⟨anc,lk⟩ ⟨e,nx,ss,ks,am,ls⟩with | none=>none | some s'=>B6 E D Z.next n (i+1) l pl s')=_
 rw[h];exact h1
theorem qJ (v:V) {Z2:H} (hr:EJ E Z n S nx ss am ls Zc) (hw:BZ (restr lk e) g=some true) (hc:o.cls = .k) (hva:∀j,j<n->am.testBit j=true->anc.testBit j=true) {S':Nat->Prop} (hf:Fr S' Zc Z2) (hS:∀b,b<Z.next->S' b->S b) (hg:∀b,S' b->Z.next<=b->b<Z.next+n->False) (hv:EO E D o (restr lk e) Zc=some (v,Z2))
  (k:∀nx' ss' ks',EJ E Z n S nx' ss' am ls Z2->He E D Z n (i+1) S l pl ⟨Cb e d v,nx',ss',ks',am,ls⟩ env Z') :
  He E D Z n i S (⟨d,o,g⟩::l) (⟨anc,lk⟩::pl) ⟨e,nx,ss,ks,am,ls⟩ env Z':=by
 obtain⟨s',h1,h2,h3⟩:=SO (d:=d) v hr hc hva hf hS hg hv k
 refine⟨s',?_,h2,h3⟩
 rw[<-h1]
 show (match Dd E D Z.next n i ⟨d,o,g⟩ ⟨anc,lk⟩ ⟨e,nx,ss,ks,am,ls⟩with | none=>none | some s'=>B6 E D Z.next n (i+1) l pl s')=(match Dd E D Z.next n i ⟨d,o,none⟩ ⟨anc,lk⟩ ⟨e,nx,ss,ks,am,ls⟩with | none=>none | some s'=>B6 E D Z.next n (i+1) l pl s')
 have:Dd E D Z.next n i ⟨d,o,g⟩ ⟨anc,lk⟩ ⟨e,nx,ss,ks,am,ls⟩=Dd E D Z.next n i ⟨d,o,none⟩ ⟨anc,lk⟩ ⟨e,nx,ss,ks,am,ls⟩:=by
  unfold Dd
  rw[hw,show BZ (restr lk e) none=some true from rfl]
 rw[this]
end
end
end Go.Og
namespace Go.Og
noncomputable section
section
variable {E:EB} {D:BB} {Z Zc Z':H} {n i:Nat} {S:Nat->Prop} {d:Option Nat} {o:EK} {l:List BR} {anc:Nat} {lk:List Nat} {pl:List DP} {e env:Bt} {nx am:Nat} {ss:List (EB)} {ks:List Nat} {ls:List (Nat × EK × Bt × V)}
end
end
end Go.Og
namespace Go.Og
noncomputable section
end
noncomputable section
def Rj (l:List Int):List V:=l.map fun c => .int .u8 c
theorem bN (l m:List Int):Rj (l++m)=Rj l++Rj m:=by simp[Rj]
theorem UQ:∀l:List Int,BJ (Rj l)=true
 | []=>rfl
 | c::l=>UQ l
theorem Pa:∀l:List Int,FN (Rj l)=some (l.map fun c=>UInt8.ofNat c.toNat)
 | []=>rfl
 | c::l=>by
  show (FN (Rj l)).map _=_
  rw[Pa l];rfl
def By (Z:H) (v:V) (l:List Int):Prop:=GA Z 1 l.length v (Rj l)
theorem By.slen {Z:H} {v:V} {l:List Int} (h:By Z v l) (J:Nat->AH):BG v J=J l.length:=GA.slen h
theorem Gc {v:V} (h:v.one=true):v.live=true/\v.cells=[v]:=by
 cases v<;>first | exact⟨rfl,rfl⟩ | cases h
theorem fM {u w:V} (h:u.one=true) (k:w.one=true) (J:List V->AH):Lk [(0,1,u),(1,1,w)] [.nils,.nils] J=J [u,w]:=by
 obtain⟨h1,h2⟩:=Gc h
 obtain⟨k1,k2⟩:=Gc k
 unfold Lk Hq Hq
 rw[h1,h2,k1,k2]
 rfl
end
noncomputable section
end
noncomputable section
def nI (L:List Nat):List Int:=L.map AA
end
set_option maxRecDepth 100000
open Go
noncomputable section
def Nu (te:TypeId) (args:List V) (Z:H):AH:=match args with
 | [.str s,.int .i64 (.ofNat 10),.int .i64 (.ofNat 64)]=>if s.len<=1000000 then(match Go.Lib.parseIntB 64 s.toList with
  | .ok v=>some (.tup [.int .i64 v,.nili],Z)
  | .range=>some (.tup [.int .i64 (Go.Lib.intSat 64 s.toList),.ifc te (.ptr Z.next 0)],⟨Z.next+1,Z.bl⟩)
  | _=>none)else none
 | _=>none
theorem DL.mark {C:Cx} {R:Ren} {Z:H} {w:World} (h:DL C R Z w) (i:BI):DL C (Hl R Z.next i) ⟨Z.next+1,Z.bl⟩ w:=by
 have le:Le R (Hl R Z.next i):=(EM R Z.next i).le h.fresh
 refine⟨fun id hid=>?_,fun id b hb=>?_,fun id id' b b' j j' hb hb' hj hj' e=>?_,fun id b hb=>?_,fun g hg=>?_,h.fr,h.size,h.new,h.os,h.tape,h.output⟩
 ·have hid:Z.next+1<=id:=hid
  rw[Bb (by omega)]
  exact h.fresh id (by omega)
 ·obtain⟨j,hj,hO,hok⟩:=h.own id b hb
  exact⟨j,le _ _ hj,hO,hok.mono le rfl⟩
 ·have l1:=h.next_of_own hb
  have l2:=h.next_of_own hb'
  rw[Bb (by omega)]at hj hj'
  exact h.inj id id' b b' j j' hb hb' hj hj' e
 ·obtain⟨j,hj,hO,hok⟩:=h.ext id b hb
  exact⟨j,le _ _ hj,hO,hok.mono le rfl⟩
 ·obtain⟨j,hj,h1,h2⟩:=h.glob g hg
  exact⟨j,le _ _ hj,h1,h2⟩
theorem DL.below {C:Cx} {R:Ren} {Z:H} {w w':World} (h:DL C R Z w) (hb:Go.RowKit.Below w.heap.size w w'):DL C R Z w':=
 h.grow (fun k hk=>hb.block k hk) hb.size hb.os hb.tape hb.output
theorem j3 {P:Program} {E:EB} {G:Nat->Bool} {ρ:Go.Shelf.Ren} (L:Go.Proofs.LaysC.n174 P ρ) (hg:G (ρ.g 16)=true) {ti:TypeId} {u:V} (hE:look E (ρ.g 16)=some (.cells [.ifc ti u])) (hok:Hb P (ρ.f 174)=true) :
  B5 P E G (ρ.f 174) (Nu (ρ.t 168)):=by
 intro C hCE hCG R Z w args xs v Z' h hrel hxs
 refine⟨hok,?_⟩
 unfold Nu at h
 split at h
 ·rename_i s
  split at h
  ·rename_i hlen
   obtain⟨x0,ys0,c0,hx0,rfl⟩:=BM.1 hxs
   obtain⟨x1,ys1,c1,hx1,rfl⟩:=BM.1 hx0
   obtain⟨x2,ys2,c2,hx2,rfl⟩:=BM.1 hx1
   cases hx2
   cases c0
   cases c1
   cases c2
   have hsz:(⟨s.toList.toArray⟩:ByteArray).size=s.len:=by
    show s.toList.toArray.size=s.len
    rw[List.size_toArray,BS.length_toList]
   have hdl:(⟨s.toList.toArray⟩:ByteArray).data.toList=s.toList:=rfl
   split at h
   ·rename_i n hn
    cases h
    refine(Go.Proofs.Any.strconv_ParseInt_10_at64_ok L ⟨s.toList.toArray⟩ (by rw[hsz];omega) n (by rw[hdl];exact hn) w).mono ?_
    rintro en w' ⟨rfl,hw⟩
    refine⟨R,_,Gw.refl _ _,AG _,?_,rfl,rfl⟩
    rcases hw with rfl|⟨t,rfl⟩
    ·exact hrel
    ·exact hrel.below (Go.Lib.bytesWorld_below w _ t)
   ·rename_i hn
    cases h
    subst hCE
    subst hCG
    obtain⟨j,hj,_,hok'⟩:=hrel.ext _ _ hE
    obtain⟨j',hj',hb,hs⟩:=hrel.glob _ hg
    rw[hj]at hj'
    cases hj'
    obtain⟨arr,el,fr,h1,h2⟩:=hok'
    obtain⟨a,ha,_,hc⟩:=h2 0 _ rfl
    obtain⟨y,rfl⟩:∃y,a = .iface ti y:=by
     simp only[Ar]at ha
     split at ha
     ·cases ha;exact⟨_,rfl⟩
     ·cases ha
    have hcell:w.cell? ⟨ρ.g 16,0,none⟩=some (.iface ti y):=by
     rw[hb]at h1
     unfold World.cell?
     simp only[h1]
     rw[hs]at hc
     simpa using hc
    refine(Go.Proofs.Any.strconv_ParseInt_10_at64_range L ⟨s.toList.toArray⟩ (by rw[hsz];omega) (by rw[hdl];exact hn) _ w hcell (.inr ⟨ti,y,rfl⟩)).mono ?_
    rintro en w' ⟨q,rfl,_,_,hbw⟩
    refine⟨Hl R Z.next ⟨q,0,0⟩,_,EM _ _ _,D3 _,(hrel.below hbw).mark ⟨q,0,0⟩,?_,rfl⟩
    simp[Ar,Az,Bv]
   ·cases h
  ·cases h
 ·cases h
end
noncomputable section
section
variable {Q:DS->Prop} {E:EB} {D:BB} {Z Zc Z':H} {n i:Nat} {S:Nat->Prop} {d:Option Nat} {o:EK} {l:List BR} {anc:Nat} {lk:List Nat} {pl:List DP} {e env:Bt} {nx am:Nat} {ss:List (EB)} {ks:List Nat} {ls:List (Nat × EK × Bt × V)} {g:Option (Nat × Bool)}
end
end
end Go.Og
namespace Go.Og
noncomputable section
structure Zl (E:EB) (Z:H) (n:Nat) (pl0:List DP) (nx:Nat) (ss:List (EB)) (ks:List Nat) (am:Nat) (ls:List (Nat × EK × Bt × V)) (Zc:H):Prop where
 hd:nx=Zc.next/\∃r,ss=Zc.bl::r
 gap:∀i,i<n->am.testBit i=false->look Zc.bl (Z.next+i)=none
 ld:∀x∈ls,∀more,E9 E Z.next n pl0 am x.1 x.2.1 x.2.2.1 x.2.2.2 ss ks more=true
section
variable {E:EB} {D:BB} {Z Zc Z2 Z':H} {n i:Nat} {S S2:Nat->Prop} {d:Option Nat} {o:EK} {l:List BR} {anc:Nat} {lk:List Nat} {pl pl0:List DP} {e env:Bt} {nx am:Nat} {ss:List (EB)} {ks:List Nat} {ls:List (Nat × EK × Bt × V)}
theorem EJ.c (hr:EJ E Z n S nx ss am ls Zc):Zl E Z n pl0 nx ss ks am ls Zc:=by
 obtain⟨⟨hn,r,rfl⟩,h2,h3,h4,h5,h6⟩:=hr
 exact⟨⟨hn,r,rfl⟩,fun i hi hb=>h5 _ As i hi hb,fun x hx more=>KD (h6 x hx) _ _ _ h4⟩
theorem YO {j k:Nat} {more:List Nat} (h:(pl0.getD k ⟨0,[]⟩).anc.testBit j=true):I2 pl0 j (k::ks) more=false:=by
 unfold I2
 rw[Vp,h]
 simp
theorem fL (v:V) (hr:Zl E Z n pl0 nx ss ks am ls Zc) (hb:Z.next+n<=Zc.next) (hc:o.cls = .k) (hva:∀j,j<n->am.testBit j=true->anc.testBit j=true) (hf:Fr S2 Zc Z2) (hg:∀b,S2 b->Z.next<=b->b<Z.next+n->False)
  (hv:EO E D o (restr lk e) Zc=some (v,Z2)) (hl:∀x∈ls,(pl0.getD i ⟨0,[]⟩).anc.testBit x.1=true)
  (k:∀nx' ss' ks',Zl E Z n pl0 nx' ss' ks' am ls Z2->G0 (Mt E Z n pl0 env Z') E D Z n (i+1) l pl ⟨Cb e d v,nx',ss',ks',am,ls⟩) :
  G0 (Mt E Z n pl0 env Z') E D Z n i (⟨d,o,none⟩::l) (⟨anc,lk⟩::pl) ⟨e,nx,ss,ks,am,ls⟩:=by
 obtain⟨⟨hn,r,rfl⟩,h5,h6⟩:=hr
 subst hn
 have hr':Zl E Z n pl0 Z2.next (Z2.bl::Zc.bl::r) (i::ks) am ls Z2:=by
  refine⟨⟨rfl,_,rfl⟩,fun j hj hb'=>?_,fun x hx more=>?_⟩
  ·have:=hf.same (Z.next+j) (by omega) (fun hs=>hg _ hs (by omega) (by omega))
   rw[<-BH,this,BH]
   exact h5 j hj hb'
  ·rw[OK (YO (hl x hx))]
   exact h6 x hx _
 obtain⟨s',k1,k2⟩:=k Z2.next (Z2.bl::Zc.bl::r) (i::ks) hr'
 refine⟨s',(dk v Z2.next Z2.bl hc (GP fun j hj hp=>?_) hv).trans k1,k2⟩
 refine h5 j hj ?_
 cases ha:am.testBit j with
 | false=>rfl
 | true=>
  exfalso
  unfold Dj at hp
  rw[ha,hva j hj ha]at hp
  cases hp
theorem cZ (hr:Zl E Z n pl0 nx ss ks am ls Zc):G0 (Mt E Z n pl0 e Zc) E D Z n i [] pl ⟨e,nx,ss,ks,am,ls⟩:=by
 obtain⟨⟨hn,r,rfl⟩,h5,h6⟩:=hr
 exact⟨_,Kz,rfl,hn,⟨r,rfl⟩,D6.2 fun x hx=>h6 x hx _,fun j hj hb=>h5 j hj hb⟩
end
end
end Go.Og
set_option maxHeartbeats 0
namespace Go.Proofs.YtnpcmeaplmfdlaaDoor
open Go Go.Og
noncomputable section
def nV:Ff:=⟨100,[],
 [],
 .bool true,230,
 []⟩
theorem WM:nV.right 7 ((DT [] 100000 60) 4)=true:=by kernel_rfl
theorem WL:nV.shape=true:=by kernel_rfl
def nU:Ff:=⟨100,[.agg [.str ⟨0,0⟩,.int .i64 (AA 0),.nils,.nils,.nils],.agg [.str ⟨0,0⟩,.int .i64 (AA 0),.nils,.nils,.nils]],
 [],
 .bool true,102,
 []⟩
theorem WK:nU.right 7 ((DT [] 100000 60) 6)=true:=by kernel_rfl
theorem WJ:nU.shape=true:=by kernel_rfl
def kn:List (Nat × List Ff):=[(4,[nV]),(6,[nU])]
abbrev pk:TypeId:=124
def TW (E:EB) (d:Nat):BB:=Nat.rec (fun _ _ _=>none) (fun _ ih f=>match Ag f 45 with
 | true=>Nu pk
 | false=>match Bl kn f with
  | some l=>RB l (BD E 600000 ih f)
  | none=>BD E 600000 ih f) d
theorem YR:∀p∈kn,∀e∈p.2,e.right 7 (DT [] 100000 60 p.1)=true:=by
 unfold kn
 simp only[LF,Ey,false_implies,implies_true,and_true]
 exact⟨WM,WK⟩
theorem qZ (E:EB) (hp:B5 Tryd.prog E glob 45 (Nu pk)):∀(d:Nat) (f:FuncId),B5 Tryd.prog E glob f (TW E d f):=by
 intro d
 induction d with
 | zero=>intro f C _ _ R Z w args xs v Z' h;cases h
 | succ d ih=>
  intro f
  show B5 Tryd.prog E glob f (match Ag f 45 with
   | true=>Nu pk
   | false=>match Bl kn f with
    | some l=>RB l (BD E 600000 (TW E d) f)
    | none=>BD E 600000 (TW E d) f)
  split
  ·rename_i h
   rw[BO h]
   exact hp
  ·split
   ·rename_i l hl
    rw[BH]at hl
    exact cM (ae E 600000 (TW E d) ih f) (ug [] 100000 60 f) Yd (YR _ (Gg hl))
   ·exact ae E 600000 (TW E d) ih f
abbrev tw (E:EB) (d:Nat) (F:EB->BB->AJ->Nat->List V->H->AH):List V->H->AH:=F E (TW E d) (A2 E (TW E d)) 600000
section
variable (E:EB) (d:Nat)
theorem DE3:TW E (d+1) 3=tw E d F3:=by kernel_rfl
theorem DE5:TW E (d+1) 5=tw E d F5:=by kernel_rfl
theorem DE6:TW E (d+1) 6=RB [nU] (tw E d F6):=by kernel_rfl
theorem DE7:TW E (d+1) 7=tw E d F7:=by kernel_rfl
theorem DE8:TW E (d+1) 8=tw E d F8:=by kernel_rfl
theorem ABd:TW E (d+1) 13=tw E d oD:=by kernel_rfl
theorem ABc:TW E (d+1) 14=tw E d uf:=by kernel_rfl
theorem ABb:TW E (d+1) 15=tw E d ue:=by kernel_rfl
theorem ABa:TW E (d+1) 16=tw E d oC:=by kernel_rfl
theorem ABZ:TW E (d+1) 17=tw E d ud:=by kernel_rfl
theorem ABY:TW E (d+1) 18=tw E d uc:=by kernel_rfl
theorem ABX:TW E (d+1) 19=tw E d ub:=by kernel_rfl
theorem ABW:TW E (d+1) 27=tw E d ua:=by kernel_rfl
theorem ABV:TW E (d+1) 28=tw E d uZ:=by kernel_rfl
theorem ABU:TW E (d+1) 29=tw E d uY:=by kernel_rfl
theorem ABT:TW E (d+1) 30=tw E d oB:=by kernel_rfl
theorem ABS:TW E (d+1) 31=tw E d uX:=by kernel_rfl
theorem ABR:TW E (d+1) 32=tw E d oA:=by kernel_rfl
theorem ABQ:TW E (d+1) 33=tw E d n9:=by kernel_rfl
theorem ABP:TW E (d+1) 34=tw E d n8:=by kernel_rfl
theorem ABO:TW E (d+1) 35=tw E d ny:=by kernel_rfl
theorem ABN:TW E (d+1) 36=tw E d uW:=by kernel_rfl
theorem ABM:TW E (d+1) 37=tw E d uV:=by kernel_rfl
theorem ABL:TW E (d+1) 38=tw E d uU:=by kernel_rfl
theorem JH:TW E (d+1) 39=tw E d uT:=by kernel_rfl
theorem ABK:TW E (d+1) 43=tw E d uS:=by kernel_rfl
theorem ABJ:TW E (d+1) 44=tw E d uR:=by kernel_rfl
theorem ABI:TW E (d+1) 46=tw E d nw:=by kernel_rfl
theorem ABH:TW E (d+1) 47=tw E d uQ:=by kernel_rfl
theorem Jw:TW E (d+1) 48=tw E d uP:=by kernel_rfl
theorem ABG:TW E (d+1) 53=tw E d uO:=by kernel_rfl
theorem ABF:TW E (d+1) 56=tw E d uN:=by kernel_rfl
theorem ABE:TW E (d+1) 57=tw E d uM:=by kernel_rfl
theorem ABD:TW E (d+1) 58=tw E d uL:=by kernel_rfl
theorem ABC:TW E (d+1) 59=tw E d uK:=by kernel_rfl
theorem ABB:TW E (d+1) 60=tw E d nq:=by kernel_rfl
theorem Jv:TW E (d+1) 61=tw E d nn:=by kernel_rfl
theorem Ju:TW E (d+1) 62=tw E d uJ:=by kernel_rfl
theorem ABA:TW E (d+1) 63=tw E d nk:=by kernel_rfl
theorem AA9:TW E (d+1) 68=tw E d uI:=by kernel_rfl
theorem AA8:TW E (d+1) 69=tw E d uH:=by kernel_rfl
theorem Jt:TW E (d+1) 70=tw E d nj:=by kernel_rfl
theorem Js:TW E (d+1) 71=tw E d uG:=by kernel_rfl
theorem AA7:TW E (d+1) 72=tw E d uF:=by kernel_rfl
theorem Jr:TW E (d+1) 77=tw E d nh:=by kernel_rfl
theorem AA6:TW E (d+1) 78=tw E d uE:=by kernel_rfl
theorem AA5:TW E (d+1) 80=tw E d nZ:=by kernel_rfl
theorem AA4:TW E (d+1) 82=tw E d uD:=by kernel_rfl
theorem uh:TW E (d+1) 45=Nu pk:=by kernel_rfl
end
theorem DE4 (E:EB) (d:Nat):TW E (d+1) 4=RB [nV] (BD E 600000 (TW E d) 4):=by kernel_rfl
theorem Nx {Z:H} (ht:Ci Z) (z:List V):∃Z1,CO Z (.cells z)=Z1/\Fr BQ Z Z1/\DZ Z1 Z.next z/\Z1.next=Z.next+1:=⟨_,rfl,Fr.new ht _,PD _,rfl⟩
theorem fJ {Z:H} {b:Nat} {l:List V} (ht:Ci Z) (h:DZ Z b l) (z:List V):∃Z1,Ke Z b (.cells z)=Z1/\Fr (fun k=>k=b) Z Z1/\DZ Z1 b z:=⟨_,rfl,Fr.set ht (h.lt ht) _,ah _⟩
def IX (c:Nat):Bool:=(decide (97<=c)&&decide (c<=122)) || (decide (65<=c)&&decide (c<=90))
def Bj (c:Nat):Bool:=decide (48<=c)&&decide (c<=57)
def cY (c:Nat):Bool:=((decide (c=32) || decide (c=9)) || decide (c=10)) || decide (c=13)
def M1 (c:Nat) (r:List Nat):Bool:=decide (c=45)&&decide (r.headD 0=45)
def Wz:List Nat->List Nat
 | []=>[]
 | c::r=>match decide (c=10)with
  | true=>c::r
  | false=>match M1 c r with
   | true=>r.drop 1
   | false=>Wz r
def PG:Nat->List Nat->List Nat
 | 0,r=>r
 | _+1,[]=>[]
 | n+1,c::r=>match cY c with
  | true=>PG n r
  | false=>match M1 c r with
   | true=>PG n (Wz (r.drop 1))
   | false=>c::r
theorem TZ:∀r:List Nat,(Wz r).length<=r.length
 | []=>AG _
 | c::r=>by
  unfold Wz
  have:=TZ r
  split
  ·exact AG _
  ·split
   ·simp;omega
   ·simp;omega
theorem UW:∀r:List Nat,∃k,k<=r.length/\Wz r=r.drop k
 | []=>⟨0,AG _,rfl⟩
 | c::r=>by
  unfold Wz
  split
  ·exact⟨0,CD _,rfl⟩
  ·split
   ·rename_i h
    have h2:r≠[]:=fun e=>by subst e;simp[M1]at h
    exact⟨2,by cases r with | nil=>exact absurd rfl h2 | cons _ _=>simp,by simp⟩
   ·obtain⟨k,h1,h2⟩:=UW r
    exact⟨k+1,by simp;omega,by rw[h2];rfl⟩
theorem MD:∀(n:Nat) (r:List Nat),(PG n r).length<=r.length
 | 0,_=>AG _
 | _+1,[]=>AG _
 | n+1,c::r=>by
  unfold PG
  split
  ·exact HE (MD n r)
  ·split
   ·have h1:=MD n (Wz (r.drop 1))
    have h2:=TZ (r.drop 1)
    simp only[AM,Aa]at *;omega
   ·exact AG _
structure KZ (s:BS) (i:Nat) (r:List Nat):Prop where
 r:On s i r
 few:s.len<=10000
section
variable {s:BS} {i c:Nat} {r:List Nat}
theorem KZ.len (h:KZ s i r):i+r.length=s.len:=h.r.len
theorem KZ.le (h:KZ s i r):i<=10000:=by have:=h.len;have:=h.few;omega
theorem KZ.tl (h:KZ s i (c::r)):KZ s (i+1) r:=⟨h.r.tail,h.few⟩
theorem KZ.dr (h:KZ s i r) {k:Nat} (hk:k<=r.length):KZ s (i+k) (r.drop k):=⟨h.r.drop hk,h.few⟩
theorem KZ.lt (h:KZ s i (c::r)):i<s.len:=by have:=h.len;simp at this;omega
theorem KZ.ix (h:KZ s i (c::r)) (J:Int->AH):Ei s (AA i) J=J (AA c):=by
 rw[Ji h.lt]
 have:=h.r.getD_lt (k:=0) h.lt
 rw[L6]at this
 rw[<-this];rfl
theorem KZ.nil (h:KZ s i []):i=s.len:=by have:=h.len;simpa using this
end
section
variable {E:EB} {D:BB} {W:AJ} {N:Nat}
end
def TT:List BS:=[BS.mk 11 100710650190388740279911748,BS.mk 8 6073459554577832005,BS.mk 8 6073459554577829193,BS.mk 9 1241215773001651606849,BS.mk 4 1397178708,BS.mk 5 336236856642,BS.mk 3 4476485,BS.mk 7 22026814072246082,BS.mk 7 23157120498421321,BS.mk 10 322399817400452109389381,BS.mk 4 1280070990,BS.mk 5 361940403023,BS.mk 6 78401563153491,BS.mk 10 488440487847103610377301,BS.mk 8 4990918871747741011,BS.mk 3 5522771,BS.mk 6 76155295057987,BS.mk 2 17999,BS.mk 8 5494759122808361039,BS.mk 7 23727827094750532,BS.mk 4 1163544915,BS.mk 3 5130573,BS.mk 3 5783885,BS.mk 4 1163219540,BS.mk 5 297750249798]
def D9:List BS:=[BS.mk 3 4012602,BS.mk 3 3026478,BS.mk 2 11822,BS.mk 2 23387,BS.mk 2 23901,BS.mk 1 123,BS.mk 1 125,BS.mk 1 91,BS.mk 1 93,BS.mk 1 40,BS.mk 1 41,BS.mk 1 44,BS.mk 1 58]
def pO (t:BS):Bool:=TT.any fun w=>w.beq t
def YD (c:Nat) (r:List Nat):Bool:=(IX c || Bj c) || (decide (c=45) && !decide (r.headD 0=45))
def LI:List Nat->Nat
 | []=>0
 | c::r=>match YD c r with
  | true=>LI r+1
  | false=>0
def SC (w:List Nat):Bool:=decide (w.getD (w.length-1) 0=45) || decide (60<w.length)
def MG:List BS->List Nat->Nat
 | [],_=>0
 | t::l,r=>match decide (t.len<=r.length)&&decide (r.take t.len=t.nats)with
  | true=>t.len
  | false=>MG l r
def EL:Nat->List Nat->Nat
 | a,[]=>a
 | a,d::l=>EL (10*a+(d-48)) l
def EC (m:Bool) (ds:List Nat):List Nat:=if m=true then 45::ds else ds
theorem SB (c:Nat) (r:List Nat):LI (c::r)=match YD c r with
 | true=>LI r+1
 | false=>0:=rfl
theorem Vz (t:BS) (l:List BS) (r:List Nat):MG (t::l) r=match decide (t.len<=r.length)&&decide (r.take t.len=t.nats)with
 | true=>t.len
 | false=>MG l r:=rfl
theorem YC:∀r:List Nat,LI r<=r.length
 | []=>AG _
 | c::r=>by
  unfold LI
  have:=YC r
  split<;>simp only[AM]<;>omega
section
variable {E:EB} {D:BB} {W:AJ} {N:Nat}
end
theorem bM (l:List Nat):∀a:Nat,a<=EL a l:=by
 induction l with
 | nil=>intro a;exact AG a
 | cons d l ih=>
  intro a
  have:=ih (10*a+(d-48))
  show a<=EL (10*a+(d-48)) l
  omega
theorem Ll {c:Nat} (h:Bj c=true):48<=c/\c<=57:=by
 unfold Bj at h
 rwa [AF,decide_eq_true_eq,decide_eq_true_eq]at h
abbrev A4:=Nat × List Nat × Nat
def EN (ts:List A4):List V:=ts.flatMap fun t=>[.int .i64 (AA t.1),.str (Cj t.2.1),.int .i64 (AA t.2.2)]
theorem Rk (a b:List A4):EN (a++b)=EN a++EN b:=List.flatMap_append
section
variable {E:EB} {D:BB} {W:AJ} {N:Nat}
end
structure Rd (Z:H) (b:Nat) (s:BS) (i:Nat) (r:List Nat):Prop where
 at_:DZ Z b [.str s,.int .i64 (AA i)]
 t5:KZ s i r
 ht:Ci Z
section
variable {Z Z':H} {b i k:Nat} {s:BS} {r:List Nat}
theorem Rd.fr {S:Nat->Prop} (h:Rd Z b s i r) (f:Fr S Z Z') (hS:¬S b):Rd Z' b s i r:=⟨f.at_ h.at_ h.ht hS,h.t5,f.tidy⟩
theorem Rd.lt (h:Rd Z b s i r):b<Z.next:=h.at_.lt h.ht
theorem Rd.adv (h:Rd Z b s i r) {k:Nat} (hk:k<=r.length) :
  ∃Z',(∀J:H->AH,Dk 1 b 1 (.int .i64 (AA (i+k))) Z J=J Z')/\Rd Z' b s (i+k) (r.drop k)/\Fr (fun c=>c=b) Z Z':=by
 obtain⟨Z',e,f,a'⟩:=fJ h.ht h.at_ [.str s,.int .i64 (AA (i+k))]
 refine⟨Z',fun J=>?_,⟨a',h.t5.dr hk,f.tidy⟩,f⟩
 rw[JR h.at_ rfl]
 show J (Ke Z b (.cells [.str s,.int .i64 (AA (i+k))]))=_
 rw[e]
theorem KZ.ixk (h:KZ s i r) (hi:i+k<s.len) (J:Int->AH):Ei s (AA (i+k)) J=J (AA (r.getD k 0)):=by
 rw[Ji hi,h.r.getD_lt hi]
theorem KZ.pre (h:KZ s i r) (J:BS->AH):CW s (some (.int .i64 (AA i))) none J=J (Cj r):=by
 rw[Ng (by have:=h.len;omega),h.r.subAll]
theorem KZ.cut (h:KZ s i r) (hk:k<=r.length) (J:BS->AH):CW s (some (.int .i64 (AA i))) (some (.int .i64 (AA (i+k)))) J=J (Cj (r.take k)):=by
 rw[Nh (by omega) (by have:=h.len;omega),h.r.sub hk]
end
def Wf (t:BS) (r:List Nat):Bool:=decide (t.len<=r.length)&&decide (r.take t.len=t.nats)
theorem OU (r:List Nat):Wf (BS.mk 2 11565) r=(match r with | c::r'=>M1 c r' | []=>false):=by
 have e:(BS.mk 2 11565).nats=[45,45]:=by decide +kernel
 unfold Wf
 rw[e]
 match r with
 | []=>rfl
 | [c]=>
  show (decide (2<=1)&&_)=(decide (c=45)&&decide ((0:Nat)=45))
  rw[show decide (2<=1)=false from rfl,show decide ((0:Nat)=45)=false from rfl,Rb];rfl
 | c::d::r=>
  show (decide (2<=(c::d::r).length)&&decide ((c::d::r).take 2=[45,45]))=(decide (c=45)&&decide (d=45))
  rw[decide_eq_true (show 2<=(c::d::r).length by simp),CQ]
  show decide ([c,d]=[45,45])=_
  by_cases h1:c=45<;>by_cases h2:d=45<;>simp[h1,h2]
def LD (F:List V->H->AH):Prop:=∀{Z:H} {b i:Nat} {s:BS} {r:List Nat} (k:Nat),Rd Z b s i r->k<=10->F [.ptr b 0,.int .i64 (AA k)] Z=some (.int .u8 (AA (r.getD k 0)),Z)
def Oi (F:List V->H->AH):Prop:=∀(Z:H) (c:Nat),F [.int .u8 (AA c)] Z=some (.bool (IX c),Z)
def Lw (F:List V->H->AH):Prop:=∀(Z:H) (c:Nat),F [.int .u8 (AA c)] Z=some (.bool (Bj c),Z)
def Wm (F:List V->H->AH):Prop:=∀(Z:H) (r:List Nat) (t:BS),(∀c∈r,c<256)->F [.str (Cj r),.str t] Z=some (.bool (Wf t r),Z)
def S3 (F:List V->H->AH):Prop:=∀{Z:H} {b i:Nat} {s:BS} {r:List Nat} (t:BS),Rd Z b s i r->F [.ptr b 0,.str t] Z=some (.bool (Wf t r),Z)
def dm (N:Nat) (F:List V->H->AH):Prop:=∀{Z:H} {b i:Nat} {s:BS} {r:List Nat},Rd Z b s i r->∃i' Z',F [.ptr b 0] Z=some (.tup [],Z')/\Rd Z' b s i' (PG N r)/\Fr (fun c=>c=b) Z Z'
section
variable {E:EB} {D:BB} {W:AJ} {N:Nat}
theorem xu:LD (ua E D W N):=by
 intro Z b i s r k h hk
 have a:=h.at_
 have hle:=h.t5.le
 have a1:CJ .i64 (AA i) (AA k)=AA (i+k):=Bw (by omega)
 show ZW E D W b 0 (AA k) Z=_
 unfold ZW
 by_cases hl:i+k<s.len
 ·have d1:decide (s.len<=i+k)=false:=decide_eq_false (by omega)
  have e:=fun J=>h.t5.ixk (k:=k) hl J
  simp -implicitDefEqProofs only [↓rP,rA,AD,AE,AB,↓Av a,a1,d1,↓e]
 ·have d1:decide (s.len<=i+k)=true:=decide_eq_true (by omega)
  simp -implicitDefEqProofs only [↓rP,rA,AD,AE,AB,↓Av a,a1,d1]
  have hlen:=h.t5.len
  rw[BA,Af (by omega)];rfl
theorem pv:Oi (uY E D W N):=by
 intro Z c
 show ZU E D W (AA c) Z=_
 unfold ZU IX
 simp -implicitDefEqProofs only [HK,QC,QB,B8,CS,G5,IW,Hn,HR,X5,Ud,Be,fP,Pv,Pw,XY,XX,XW,XV,UU,Rm,IT,Ma,Pg,Ph,Pk,Pf,MZ,Pj,No,Rt,Rr,Ni,Ro,Mg,De,DG,Un,SM,Uo,Nat.add_eq,B2,Hj,Ra,rC,rQ,decide_false,decide_true,AD,AE,AB]
theorem qT:Lw (uX E D W N):=by
 intro Z c
 show ZS E D W (AA c) Z=_
 unfold ZS Bj
 simp -implicitDefEqProofs only [HK,QC,QB,B8,CS,G5,IW,Hn,HR,X5,Ud,Be,fP,Pv,Pw,XY,XX,XW,XV,UU,Rm,IT,Ma,Pg,Ph,Pk,Pf,MZ,Pj,No,Rt,Rr,Ni,Ro,Mg,De,DG,Un,SM,Uo,Nat.add_eq,B2,Hj,Ra,rC,rQ,decide_false,decide_true,AD,AE,AB]
theorem px:Wm (uO E D W N):=by
 intro Z r t hb
 have hn':(Cj r).len=r.length:=Fo r
 show ZM E D W (Cj r) t Z=_
 unfold ZM Wf
 by_cases h1:t.len<=r.length
 ·have sp:∀J,CW (Cj r) none (some (.int .i64 (AA t.len))) J=J ((Cj r).sub 0 t.len):=fun J=>Qx (by rw[hn'];exact h1)
  have eb:((Cj r).sub 0 t.len).beq t=decide (r.take t.len=t.nats):=by
   rw[BS.beq_nats,BS.nats_sub (by rw[hn'];exact h1),LS hb,EV,L5]
  simp -implicitDefEqProofs only [↓rP,rA,AD,AE,AB,hn',decide_eq_true h1,↓sp,eb]
 ·simp -implicitDefEqProofs only [↓rP,rA,AD,AE,AB,hn',decide_eq_false h1]
theorem pd (h:Wm (D 53)):Wm (uS E D W N):=by
 intro Z r t hb
 have g:=h Z r t hb
 show ZQ E D W (Cj r) t Z=_
 unfold ZQ
 simp -implicitDefEqProofs only [↓rP,rS,↓g]
theorem yG (h:Wm (D 43)):S3 (uZ E D W N):=by
 intro Z b i s r t hr
 have a:=hr.at_
 have g:=h Z r t hr.t5.r.bd
 have sp:=fun J=>hr.t5.pre J
 show ZV E D W b 0 t Z=_
 unfold ZV
 simp -implicitDefEqProofs only [↓rP,rA,AD,AE,AB,↓Av a,↓sp,↓g]
theorem Xi (hP:LD (D 27)) (hA:S3 (D 28)) (R1:Nat->Nat->H->AH) {b:Nat} {s:BS}:∀(r:List Nat) (n i:Nat) (Z:H),r.length<n->Rd Z b s i r ->
  ∃i' Z',QT E D W N R1 n b 0 Z=R1 b 0 Z'/\Rd Z' b s i' (Wz r)/\Fr (fun c=>c=b) Z Z'
 | [],n,i,Z,hn,h=>by
  obtain⟨n,rfl⟩:∃m,n=m+1:=⟨n-1,by omega⟩
  refine⟨i,Z,?_,h,Fr.refl h.ht⟩
  have a:=h.at_
  have d1:decide (i<s.len)=false:=decide_eq_false (by have:=h.t5.nil;omega)
  have g:=hA (BS.mk 2 11565) h
  rw[OU]at g
  show I6 E D W (Vn E D W N R1) _ b 0 Z=_
  have key:∀K R,I6 E D W K R b 0 Z=K b 0 Z:=by
   intro K R
   unfold I6
   simp -implicitDefEqProofs only [↓rP,rA,AD,AE,AB,↓Av a,d1]
  rw[key]
  show Oe E D W R1 b 0 Z=_
  unfold Oe
  simp -implicitDefEqProofs only [↓rP,rS,↓g]
 | c::r,n,i,Z,hn,h=>by
  obtain⟨n,rfl⟩:∃m,n=m+1:=⟨n-1,by omega⟩
  have a:=h.at_
  have hle:=h.t5.le
  have d1:decide (i<s.len)=true:=decide_eq_true h.t5.lt
  have g:=hA (BS.mk 2 11565) h
  rw[OU]at g
  have p0:=hP 0 h (by decide)
  have a1:CJ .i64 (AA i) (AA 1)=AA (i+1):=Bw (by omega)
  have a2:CJ .i64 (AA i) (AA 2)=AA (i+2):=Bw (by omega)
  have p0:D 27 [.ptr b 0,.int .i64 (AA 0)] Z=some (.int .u8 (AA c),Z):=p0
  have g:D 28 [.ptr b 0,.str (BS.mk 2 11565)] Z=some (.bool (M1 c r),Z):=g
  show ∃i' Z',I6 E D W (Vn E D W N R1) (QT E D W N R1 n) b 0 Z=_/\_
  by_cases h10:c=10
  ·have d2:decide (c=10)=true:=decide_eq_true h10
   have hd:M1 c r=false:=by unfold M1;rw[decide_eq_false (show ¬c=45 by omega)];rfl
   rw[hd]at g
   refine⟨i,Z,?_,?_,Fr.refl h.ht⟩
   ·have key:∀K R,I6 E D W K R b 0 Z=K b 0 Z:=by
     intro K R
     unfold I6
     simp -implicitDefEqProofs only [↓rP,rA,AD,AE,AB,↓Av a,d1,↓p0,d2]
    rw[key]
    show Oe E D W R1 b 0 Z=_
    unfold Oe
    simp -implicitDefEqProofs only [↓rP,rS,↓g]
   ·unfold Wz;rw[d2];exact h
  ·have d2:decide (c=10)=false:=decide_eq_false h10
   cases hd:M1 c r with
   | true=>
    rw[hd]at g
    have hr:r≠[]:=fun e=>by subst e;simp[M1]at hd
    obtain⟨Z1,s1,r1,f1⟩:=h.adv (k:=2) (by cases r with|nil=>exact absurd rfl hr|cons _ _=>simp)
    refine⟨i+2,Z1,?_,by unfold Wz;rw[d2,hd];exact r1,f1⟩
    have key:∀K R,I6 E D W K R b 0 Z=K b 0 Z:=by
     intro K R
     unfold I6
     simp -implicitDefEqProofs only [↓rP,rA,AD,AE,AB,↓Av a,d1,↓p0,d2,↓g]
    rw[key]
    show Oe E D W R1 b 0 Z=_
    unfold Oe
    simp -implicitDefEqProofs only [↓rP,rA,AD,AE,AB,↓g,↓Av a,a2,↓s1]
   | false=>
    rw[hd]at g
    obtain⟨Z1,s1,r1,f1⟩:=h.adv (k:=1) (by simp)
    obtain⟨i',Z',e',r',f'⟩:=Xi hP hA R1 r n (i+1) Z1 (by simp at hn;omega) r1
    refine⟨i',Z',?_,by unfold Wz;rw[d2,hd];exact r',f1.trans f' (fun _ _ h=>h)⟩
    have key:∀K R,I6 E D W K R b 0 Z=R b 0 Z1:=by
     intro K R
     unfold I6
     simp -implicitDefEqProofs only [↓rP,rA,AD,AE,AB,↓Av a,d1,↓p0,d2,↓g,a1,↓s1]
    rw[key,e']
theorem jv (hP:LD (D 27)) (hA:S3 (D 28)) (hN:10000<N) {b:Nat} {s:BS}:∀(n:Nat) (r:List Nat) (i:Nat) (Z:H),r.length<n->Rd Z b s i r ->
  ∃i' Z',Mo E D W N n b 0 Z=some (.tup [],Z')/\Rd Z' b s i' (PG n r)/\Fr (fun c=>c=b) Z Z'
 | 0,r,i,Z,hn,h=>by omega
 | n+1,[],i,Z,hn,h=>by
  refine⟨i,Z,?_,h,Fr.refl h.ht⟩
  have a:=h.at_
  have d1:decide (i<s.len)=false:=decide_eq_false (by have:=h.t5.nil;omega)
  show I7 E D W (QT E D W N (Mo E D W N n) N) (Mo E D W N n) b 0 Z=_
  have key:∀K R,I7 E D W K R b 0 Z=some (.tup [],Z):=by
   intro K R
   unfold I7
   simp -implicitDefEqProofs only [↓rP,rA,AD,AE,AB,↓Av a,d1]
  exact key _ _
 | n+1,c::r,i,Z,hn,h=>by
  have a:=h.at_
  have hle:=h.t5.le
  have d1:decide (i<s.len)=true:=decide_eq_true h.t5.lt
  have g:=hA (BS.mk 2 11565) h
  rw[OU]at g
  have p0:=hP 0 h (by decide)
  have a1:CJ .i64 (AA i) (AA 1)=AA (i+1):=Bw (by omega)
  have a2:CJ .i64 (AA i) (AA 2)=AA (i+2):=Bw (by omega)
  have p0:D 27 [.ptr b 0,.int .i64 (AA 0)] Z=some (.int .u8 (AA c),Z):=p0
  have g:D 28 [.ptr b 0,.str (BS.mk 2 11565)] Z=some (.bool (M1 c r),Z):=g
  have aw:=h.at_
  show ∃i' Z',I7 E D W (QT E D W N (Mo E D W N n) N) (Mo E D W N n) b 0 Z=_/\_
  cases hw:cY c with
  | true=>
   obtain⟨Z1,s1,r1,f1⟩:=h.adv (k:=1) (by simp)
   obtain⟨i',Z',e',r',f'⟩:=jv hP hA hN n r (i+1) Z1 (by simp at hn;omega) r1
   refine⟨i',Z',?_,by unfold PG;rw[hw];exact r',f1.trans f' (fun _ _ h=>h)⟩
   have key:∀K R,I7 E D W K R b 0 Z=R b 0 Z1:=by
    intro K R
    unfold cY at hw
    unfold I7
    cases h1:decide (c=32)<;>cases h2:decide (c=9)<;>cases h3:decide (c=10)<;>cases h4:decide (c=13)<;>rw[h1,h2,h3,h4]at hw <;>
     first
     | (cases hw;done)
     | simp -implicitDefEqProofs only [↓rP,rA,AD,AE,AB,↓Av a,d1,↓p0,h1,h2,h3,h4,a1,↓s1]
   rw[key,e']
  | false=>
   have hw':=hw
   unfold cY at hw'
   simp only[BN]at hw'
   obtain⟨⟨⟨h1,h2⟩,h3⟩,h4⟩:=hw'
   cases hd:M1 c r with
   | true=>
    rw[hd]at g
    have hr:r≠[]:=fun e=>by subst e;simp[M1]at hd
    have hr1:1<=r.length:=by cases r with | nil=>exact absurd rfl hr | cons _ _=>simp
    obtain⟨Z1,s1,r1,f1⟩:=h.adv (k:=2) (by simp only[AM];omega)
    have hlen:=h.t5.len
    have hfew:=h.t5.few
    simp only[AM]at hlen hn
    obtain⟨i2,Z2,e2,r2,f2⟩:=Xi (E:=E) (W:=W) (N:=N) hP hA (Mo E D W N n) (r.drop 1) N (i+2) Z1 (by simp only[Aa];omega) r1
    have hle':=TZ (r.drop 1)
    simp only[Aa]at hle'
    obtain⟨i',Z',e',r',f'⟩:=jv hP hA hN n (Wz (r.drop 1)) i2 Z2 (by omega) r2
    refine⟨i',Z',?_,by unfold PG;rw[hw,hd];exact r',(f1.trans f2 (fun _ _ h=>h)).trans f' (fun _ _ h=>h)⟩
    have key:∀K R,I7 E D W K R b 0 Z=K b 0 Z1:=by
     intro K R
     unfold I7
     simp -implicitDefEqProofs only [↓rP,rA,AD,AE,AB,↓Av a,d1,↓p0,h1,h2,h3,h4,↓g,a2,↓s1]
    rw[key,e2,e']
   | false=>
    rw[hd]at g
    refine⟨i,Z,?_,by unfold PG;rw[hw,hd];exact h,Fr.refl h.ht⟩
    have key:∀K R,I7 E D W K R b 0 Z=some (.tup [],Z):=by
     intro K R
     unfold I7
     simp -implicitDefEqProofs only [↓rP,rA,AD,AE,AB,↓Av a,d1,↓p0,h1,h2,h3,h4,↓g]
    exact key _ _
theorem xp (hP:LD (D 27)) (hA:S3 (D 28)) (hN:10000<N):dm N (oD E D W N):=by
 intro Z b i s r h
 exact jv (E:=E) (W:=W) hP hA hN N r i Z (by have:=h.t5.len;have:=h.t5.few;omega) h
end
abbrev Sg:=Nat × List Nat × List Nat
def Xe (x:Sg):V := .tup [.int .i64 (AA x.1),.str (Cj x.2.1)]
theorem ND:Cj []=BS.mk 0 0:=by decide +kernel
def Q7 (c:Nat) (r:List Nat):Sg:=match SC ((c::r).take (LI (c::r)))with
 | true=>(0,[],(c::r).drop (LI (c::r)))
 | false=>(if pO (Cj ((c::r).take (LI (c::r))))=true then 5 else if c<=90 then 1 else 2,(c::r).take (LI (c::r)),(c::r).drop (LI (c::r)))
def Vy (r:List Nat):Sg:=match MG D9 r with
 | 0=>(0,[],r)
 | n+1=>(6,r.take (n+1),r.drop (n+1))
def M6 (ok:List Nat->Prop) (T:List Nat->Sg) (F:List V->H->AH):Prop:=∀{Z:H} {b i:Nat} {s:BS} {r:List Nat},Rd Z b s i r->ok r ->
 ∃i' Z',F [.ptr b 0] Z=some (Xe (T r),Z')/\Rd Z' b s i' (T r).2.2/\Fr (fun c=>c=b) Z Z'
def kg (F:List V->H->AH):Prop:=∀(Z:H) (t:BS),F [.str t] Z=some (.bool (pO t),Z)
theorem WZ (a b:BS):a.beq b=b.beq a:=by
 rw[BS.beq_nats,BS.beq_nats]
 by_cases h:a.nats=b.nats
 ·rw[h]
 ·rw[decide_eq_false h,decide_eq_false (fun e=>h e.symm)]
theorem G8 (r:List Nat):r.getD 0 0=r.headD 0:=by cases r<;>rfl
section
variable {E:EB} {D:BB} {W:AJ} {N:Nat}
theorem xj:kg (uR E D W N):=by
 intro Z t
 have e:pO t=TT.any fun w=>t.beq w:=by
  unfold pO
  congr 1
  funext w
  exact WZ w t
 have two:∀b:Bool,aC E D W N b Z=some (.bool b,Z):=fun b=>by cases b<;>rfl
 have one:∀(b:Bool) (a:AH) (c:Bool),a=some (.bool c,Z)->AI b (some (.bool b,Z)) a=some (.bool (b || c),Z):=fun b a c h=>by
  subst h;cases b<;>rfl
 show ZP E D W (aC E D W N) t Z=_
 rw[e]
 unfold ZP
 simp only[two]
 unfold TT
 simp only[List.any_cons,List.any_nil]
 repeat (refine one _ _ _ ?_)
 rw[JK]
theorem fI (hP:LD (D 27)) (hL:Oi (D 29)) (hD:Lw (D 31)) {b:Nat} {s:BS} (f:Int):∀(r:List Nat) (n i:Nat) (Z:H),r.length<n->Rd Z b s i r ->
  ∃Z',TD E D W N n b 0 f (AA (r.headD 0)) Z=TI E D W N b 0 f Z'/\Rd Z' b s (i+LI r) (r.drop (LI r))/\Fr (fun c=>c=b) Z Z'
 | [],n,i,Z,hn,h=>by
  obtain⟨n,rfl⟩:∃m,n=m+1:=⟨n-1,by omega⟩
  refine⟨Z,?_,h,Fr.refl h.ht⟩
  have g1:=hL Z 0
  have g2:=hD Z 0
  show KS E D W (TI E D W N) _ b 0 f (AA 0) Z=_
  have key:∀K R,KS E D W K R b 0 f (AA 0) Z=K b 0 f Z:=by
   intro K R
   have e1:IX 0=false:=rfl
   have e2:Bj 0=false:=rfl
   rw[e1]at g1;rw[e2]at g2
   unfold KS
   simp -implicitDefEqProofs only [↓rP,rA,AD,AE,AB,↓g1,↓g2]
  exact key _ _
 | c::r,n,i,Z,hn,h=>by
  obtain⟨n,rfl⟩:∃m,n=m+1:=⟨n-1,by omega⟩
  have a:=h.at_
  have hle:=h.t5.le
  have g1:=hL Z c
  have g2:=hD Z c
  have p1:=hP 1 h (by decide)
  rw[show (c::r).getD 1 0=r.headD 0 from G8 r]at p1
  have a1:CJ .i64 (AA i) (AA 1)=AA (i+1):=Bw (by omega)
  obtain⟨Z1,s1,r1,f1⟩:=h.adv (k:=1) (by simp)
  have p2:=hP 0 r1 (by decide)
  rw[show ((c::r).drop 1).getD 0 0=r.headD 0 from G8 r]at p2
  show ∃Z',KS E D W (TI E D W N) (TD E D W N n) b 0 f (AA c) Z=_/\_
  cases hc:YD c r with
  | true=>
   obtain⟨Z',e',r',f'⟩:=fI hP hL hD f r n (i+1) Z1 (by simp at hn;omega) r1
   refine⟨Z',?_,?_,f1.trans f' (fun _ _ h=>h)⟩
   ·have key:∀K R,KS E D W K R b 0 f (AA c) Z=R b 0 f (AA (r.headD 0)) Z1:=by
     intro K R
     unfold YD at hc
     unfold KS
     cases h1:IX c<;>cases h2:Bj c<;>cases h3:decide (c=45)<;>cases h4:decide (r.headD 0=45)<;>rw[h1,h2,h3,h4]at hc<;>rw[h1]at g1<;>rw[h2]at g2 <;>
      first
      | (cases hc;done)
      | simp -implicitDefEqProofs only [↓rP,rA,AD,AE,AB,↓Av a,↓g1,↓g2,h3,↓p1,h4,a1,↓s1,↓p2]
    rw[key,e']
   ·rw[SB,hc]
    show Rd Z' b s (i+(LI r+1)) (r.drop (LI r))
    rw[show i+(LI r+1)=i+1+LI r by omega]
    exact r'
  | false=>
   refine⟨Z,?_,by rw[SB,hc];exact h,Fr.refl h.ht⟩
   have key:∀K R,KS E D W K R b 0 f (AA c) Z=K b 0 f Z:=by
    intro K R
    unfold YD at hc
    unfold KS
    cases h1:IX c<;>cases h2:Bj c<;>cases h3:decide (c=45)<;>cases h4:decide (r.headD 0=45)<;>rw[h1,h2,h3,h4]at hc<;>rw[h1]at g1<;>rw[h2]at g2 <;>
     first
     | (cases hc;done)
     | simp -implicitDefEqProofs only [↓rP,rA,AD,AE,AB,↓Av a,↓g1,↓g2,h3,↓p1,h4]
   exact key _ _
theorem cD (hP:LD (D 27)) (hL:Oi (D 29)) (hD:Lw (D 31)) (hW:kg (D 44)) (hN:10000<N) :
  M6 (fun r=>∃c l,r=c::l/\IX c=true) (fun r=>Q7 (r.headD 0) (r.drop 1)) (oB E D W N):=by
 intro Z b i s r h hok
 obtain⟨c,r,rfl,hc⟩:=hok
 have a:=h.at_
 have hle:=h.t5.le
 have hlen:=h.t5.len
 have hfew:=h.t5.few
 have hm:=YC (c::r)
 have h1:YD c r=true:=by unfold YD;rw[hc];rfl
 have h0:1<=LI (c::r):=by unfold LI;rw[h1];exact eI _
 have p0:=hP 0 h (by decide)
 obtain⟨Z1,e1,r1,f1⟩:=fI (E:=E) (W:=W) (N:=N) hP hL hD (AA i) (c::r) N i Z (by omega) h
 refine⟨i+LI (c::r),Z1,?_,?_,f1⟩
 ·show Sy E D W (TD E D W N N) b 0 Z=_
  have k0:∀K,Sy E D W K b 0 Z=K b 0 (AA i) (AA c) Z:=by
   intro K
   have p0:D 27 [.ptr b 0,.int .i64 (AA 0)] Z=some (.int .u8 (AA c),Z):=p0
   unfold Sy
   simp -implicitDefEqProofs only [↓rP,rA,AD,AE,AB,↓Av a,↓p0]
  rw[k0]
  refine e1.trans ?_
  show ZT E D W b 0 (AA i) Z1=some (Xe (Q7 c r),Z1)
  have a1:=r1.at_
  have ct:=fun J=>h.t5.cut (k:=LI (c::r)) hm J
  unfold Q7
  obtain⟨m,hm'⟩:∃m,LI (c::r)=m:=⟨_,rfl⟩
  rw[hm']at hm h0 ct a1 ⊢
  have lt:((c::r).take m).length=m:=by rw[Cl];omega
  have bd:∀x∈(c::r).take m,x<256:=fun x hx=>h.t5.r.bd x (D4 hx)
  have h2:((c::r).take m).headD 0=c:=by
   obtain⟨m,rfl⟩:∃q,m=q+1:=⟨m-1,by omega⟩
   rfl
  generalize (c::r).take m=w at ct lt bd h2 ⊢
  have ln:(Cj w).len=m:=by rw[Fo,lt]
  have ixw:∀j,j<m->∀J:Int->AH,Ei (Cj w) (AA j) J=J (AA (w.getD j 0)):=fun j hj J=>by
   rw[Ji (by omega)]
   have h1:(Cj w).nats[j]? = some ((Cj w).get j):=BS.nats_get (by omega)
   rw[LS bd]at h1
   rw[BA,h1];rfl
  have i0:=ixw 0 (by omega)
  rw[G8,h2]at i0
  have i1:=ixw (m-1) (by omega)
  have s1:JQ .i64 (AA m) (AA 1)=AA (m-1):=JP (by omega) (by omega)
  have gw:=hW Z1 (Cj w)
  unfold SC Xe
  rw[lt]
  unfold ZT
  cases h5:decide (w.getD (m-1) 0=45)<;>cases h6:decide (60<m)<;>cases h7:pO (Cj w)<;>rw[h7]at gw<;>by_cases h8:c<=90 <;>
   simp -implicitDefEqProofs only [↓rP,rA,AD,AE,AB,↓Av a1,↓ct,ln,h6,s1,↓i1,h5,↓gw,↓i0,decide_eq_true,decide_eq_false,h8,if_true,if_false]<;>rfl
 ·show Rd Z1 b s _ (Q7 c r).2.2
  have:(Q7 c r).2.2=(c::r).drop (LI (c::r)):=by
   unfold Q7
   cases SC ((c::r).take (LI (c::r)))<;>rfl
  rw[this];exact r1
theorem Vx:∀t∈D9,Cj t.nats=t/\t.len<=3/\1<=t.len:=by
 unfold D9
 simp only[LF,Ey,false_implies,implies_true,and_true]
 decide +kernel
theorem fG (hA:S3 (D 28)) {b gb i:Nat} {s:BS} {r:List Nat} (hne:gb≠b):∀(m j n:Nat) (Z:H),j+m=13->m<n->Rd Z b s i r->DZ Z gb (D9.map .str) ->
  ∃i' Z',TA E D W N n b 0 (.sl gb 0 13 (.ex 13)) (AA 13) (AA j) Z=some (.tup [.int .i64 (AA (match MG (D9.drop j) r with | 0=>0 | _+1=>6)),.str (Cj (r.take (MG (D9.drop j) r)))],Z')/\Rd Z' b s i' (r.drop (MG (D9.drop j) r))/\Fr (fun c=>c=b) Z Z'
 | 0,j,n,Z,hj,hn,h,ha=>by
  obtain⟨n,rfl⟩:∃k,n=k+1:=⟨n-1,by omega⟩
  obtain rfl:j=13:=by omega
  refine⟨i,Z,?_,h,Fr.refl h.ht⟩
  show KP E D W (Vj E D W N) _ b 0 (.sl gb 0 13 (.ex 13)) (AA 13) (AA 13) Z=_
  have key:∀K R,KP E D W K R b 0 (.sl gb 0 13 (.ex 13)) (AA 13) (AA 13) Z=K Z:=by
   intro K R
   unfold KP
   simp -implicitDefEqProofs only [↓rP,rA,AD,AE,AB,Nat.lt_irrefl]
  rw[key]
  show some (V.tup [.int .i64 (AA 0),.str (BS.mk 0 0)],Z)=some (V.tup [.int .i64 (AA 0),.str (Cj [])],Z)
  rw[ND]
 | m+1,j,n,Z,hj,hn,h,ha=>by
  obtain⟨n,rfl⟩:∃k,n=k+1:=⟨n-1,by omega⟩
  have hl:j<D9.length:=by show j<13;omega
  rw[MA hl]
  have a:=h.at_
  have hle:=h.t5.le
  have d1:decide (j<13)=true:=decide_eq_true (by omega)
  have rd:∀J,Am 1 (.sl gb 0 13 (.ex 13)) (AA j) (fun b o=>Bm E Z b o J)=J (.str D9[j]):=fun J=>by
   rw[Dy (show j<13 by omega)]
   refine RC ha ?_
   show (D9.map V.str)[0+j*1]? = _
   rw[B2,FC,Bk,AY hl];rfl
  have ht:=Vx D9[j] (UK hl)
  generalize D9[j]=t at rd ht ⊢
  have g:=hA t h
  have aj:CJ .i64 (AA j) (AA 1)=AA (j+1):=Bw (by omega)
  have at':CJ .i64 (AA i) (AA t.len)=AA (i+t.len):=Bw (by omega)
  rw[Vz]
  show ∃i' Z',KP E D W (Vj E D W N) (TA E D W N n) b 0 (.sl gb 0 13 (.ex 13)) (AA 13) (AA j) Z=_/\_
  cases hb:Wf t r with
  | true=>
   rw[hb]at g
   unfold Wf at hb
   rw[hb]
   have hb2:=hb
   rw[AF,decide_eq_true_eq,decide_eq_true_eq]at hb2
   obtain⟨Z1,s1,r1,f1⟩:=h.adv hb2.1
   refine⟨_,Z1,?_,r1,f1⟩
   have key:∀K R,KP E D W K R b 0 (.sl gb 0 13 (.ex 13)) (AA 13) (AA j) Z=some (.tup [.int .i64 (AA 6),.str t],Z1):=by
    intro K R
    unfold KP
    simp -implicitDefEqProofs only [↓rP,rA,AD,AE,AB,d1,↓rd,↓g,↓Av a,at',↓s1]
   rw[key]
   show _=some (V.tup [.int .i64 (AA (match t.len with | 0=>0 | _+1=>6)),.str (Cj (r.take t.len))],Z1)
   rw[hb2.2,ht.1]
   obtain⟨q,hq⟩:∃q,t.len=q+1:=⟨t.len-1,by omega⟩
   rw[hq]
  | false=>
   rw[hb]at g
   unfold Wf at hb
   rw[hb]
   obtain⟨i',Z',e',r',f'⟩:=fG hA hne m (j+1) n Z (by omega) (by omega) h ha
   refine⟨i',Z',?_,r',f'⟩
   have key:∀K R,KP E D W K R b 0 (.sl gb 0 13 (.ex 13)) (AA 13) (AA j) Z=R b 0 (.sl gb 0 13 (.ex 13)) (AA 13) (AA (j+1)) Z:=by
    intro K R
    unfold KP
    simp -implicitDefEqProofs only [↓rP,rA,AD,AE,AB,d1,↓rd,↓g,aj]
   rw[key,e']
theorem bV (hA:S3 (D 28)) (hN:100<N):M6 (fun _=>True) Vy (ny E D W N):=by
 intro Z b i s r h _
 have hb:=h.lt
 obtain⟨Z1,e1,f1,a1,n1⟩:=Nx h.ht (D9.map .str)
 have h1:=h.fr f1 (fun h=>h)
 obtain⟨i',Z',e',r',f'⟩:=fG (E:=E) (W:=W) (N:=N) hA (show Z.next≠b by omega) 13 0 N Z1 rfl (by omega) h1 a1
 have eT:Vy r=(match MG D9 r with | 0=>0 | _+1=>6,r.take (MG D9 r),r.drop (MG D9 r)):=by
  unfold Vy
  cases MG D9 r<;>rfl
 rw[EV]at e' r'
 refine⟨i',Z',?_,by rw[eT];exact r',(f1.mono (fun _ _ h=>h.elim):Fr (fun c=>c=b) Z Z1).trans f' (fun _ _ h=>h)⟩
 rw[eT]
 show Sq E D W (TA E D W N N) b 0 Z=_
 unfold D9 at e1
 simp only[B3,L7]at e1
 have key:∀K,Sq E D W K b 0 Z=K b 0 (.sl Z.next 0 13 (.ex 13)) (AA 13) (AA 0) Z1:=by
  intro K
  unfold Sq
  simp -implicitDefEqProofs only [↓rP,rA,AD,AE,AB,↓e1]
 rw[key]
 exact e'
end
def B0 (p:Nat->Bool):List Nat->Nat
 | []=>0
 | c::r=>match p c with
  | true=>B0 p r+1
  | false=>0
theorem FX (p:Nat->Bool) (c:Nat) (r:List Nat):B0 p (c::r)=match p c with
 | true=>B0 p r+1
 | false=>0:=rfl
theorem Q0 (p:Nat->Bool):∀r:List Nat,B0 p r<=r.length
 | []=>AG _
 | c::r=>by
  rw[FX]
  cases p c
  ·exact CD _
  ·exact UI (Q0 p r)
theorem LO (p:Nat->Bool):∀r:List Nat,∀c∈r.take (B0 p r),p c=true
 | [],c,h=>by cases h
 | a::r,c,h=>by
  rw[FX]at h
  cases ha:p a with
  | false=>rw[ha]at h;cases h
  | true=>
   rw[ha]at h
   rcases BF.1 (show c∈a::r.take (B0 p r)from h)with rfl|h
   ·exact ha
   ·exact LO p r c h
def M2 (m:Bool):Nat:=if m=true then 9223372036854775808 else 9223372036854775807
def Jc (m:Bool) (ds:List Nat) (nx:Nat):Bool:=decide (EL 0 ds<=M2 m)&&(!(decide (ds.headD 0=48)&&(decide (1<ds.length) || m)) && !IX nx)
def SG (r:List Nat):Sg:=
 let m:=decide (r.headD 0=45)
 let q:=if m=true then r.drop 1 else r
 let ds:=q.take (B0 Bj q)
 let nx:=q.drop (B0 Bj q)
 if Jc m ds (nx.headD 0)=true then(3,EC m ds,nx)else(0,[],nx)
def DK (c:Nat):Bool:=Bj c || (decide (65<=c)&&decide (c<=70))
def Up (r:List Nat):Sg:=
 let q:=r.drop 1
 let ds:=q.take (B0 DK q)
 let nx:=q.drop (B0 DK q)
 if(decide (ds.length % 2=0)&&Wf (BS.mk 2 18471) nx)=true then(4,ds,nx.drop 2)else(0,[],nx)
theorem Kn {l:List Nat} (h:∀c∈l,c<256):(Cj l).toList=l.map UInt8.ofNat:=by
 rw[Q6 h,BS.toList_ofList]
theorem fA {c:Nat} (h:c<256):(UInt8.ofNat c).toNat=c:=by
 simp only[UInt8.toNat_ofNat'];exact Ew h
theorem pum:∀(ds:List Nat) (a:Nat),(∀d∈ds,Bj d=true) ->
  (Go.Lib.parseUintM 18446744073709551615 a (ds.map UInt8.ofNat) = .ok (EL a ds))\/(Go.Lib.parseUintM 18446744073709551615 a (ds.map UInt8.ofNat) = .range/\9223372036854775808<EL a ds)
 | [],a,_ => .inl rfl
 | d::ds,a,h=>by
  obtain⟨h1,h2⟩:=Ll (h d (As ..))
  have e:(UInt8.ofNat d).toNat=d:=fA (by omega)
  have ih:=pum ds (10*a+(d-48)) (fun x hx=>h x (Ah _ hx))
  have hge:=bM ds (10*a+(d-48))
  have hv:EL a (d::ds)=EL (10*a+(d-48)) ds:=rfl
  have ea:a*10+(d-48)=10*a+(d-48):=by omega
  rw[B3,hv]
  unfold Go.Lib.parseUintM
  rw[e,if_pos ⟨h1,h2⟩]
  by_cases c1:1844674407370955162<=a
  ·rw[if_pos c1];exact .inr ⟨rfl,by omega⟩
  ·rw[if_neg c1]
   by_cases c2:18446744073709551615<a*10+(d-48)
   ·rw[if_pos c2];exact .inr ⟨rfl,by omega⟩
   ·rw[if_neg c2,ea];exact ih
theorem pib {m:Bool} {ds:List Nat} (hd:∀d∈ds,Bj d=true) (h0:ds≠[]) :
  Go.Lib.parseIntB 64 ((EC m ds).map UInt8.ofNat)=if EL 0 ds<=M2 m then .ok (if m=true then -((EL 0 ds:Nat):Int)else((EL 0 ds:Nat):Int))else .range:=by
 obtain⟨d,l,rfl⟩:∃d l,ds=d::l:=by
  cases ds with
  | nil=>exact absurd rfl h0
  | cons d l=>exact⟨d,l,rfl⟩
 have hdd:=Ll (hd d (As ..))
 have e:(UInt8.ofNat d).toNat=d:=fA (by omega)
 have hub:Go.Lib.parseUintB 64 ((d::l).map UInt8.ofNat)=Go.Lib.parseUintM 18446744073709551615 0 ((d::l).map UInt8.ofNat):=by
  unfold Go.Lib.parseUintB
  rw[if_neg (by simp)]
 have hp:=pum (d::l) 0 hd
 rw[<-hub]at hp
 cases m with
 | false=>
  show Go.Lib.parseIntB 64 (UInt8.ofNat d::l.map UInt8.ofNat)=_
  unfold Go.Lib.parseIntB
  simp only[e]
  rw[if_neg (show ¬(d=43\/d=45)by omega)]
  have e2:Go.Lib.parseUintB 64 (UInt8.ofNat d::l.map UInt8.ofNat)=Go.Lib.parseUintB 64 ((d::l).map UInt8.ofNat):=rfl
  rw[e2]
  unfold M2
  rcases hp with hp|⟨hp,hgt⟩
  ·rw[hp]
   simp only[show ¬d=45 by omega,not_false_eq_true,true_and,false_and,if_false,Cd]
   by_cases hle:EL 0 (d::l)<=9223372036854775807
   ·rw[if_pos hle,if_neg (show ¬2 ^ (64-1)<=EL 0 (d::l)by omega)]
   ·rw[if_neg hle,if_pos (show 2 ^ (64-1)<=EL 0 (d::l)by omega)]
  ·rw[hp]
   simp only[if_false,Cd]
   rw[if_neg (show ¬EL 0 (d::l)<=9223372036854775807 by omega)]
 | true=>
  show Go.Lib.parseIntB 64 (UInt8.ofNat 45::(d::l).map UInt8.ofNat)=_
  unfold Go.Lib.parseIntB
  have e45:(UInt8.ofNat 45).toNat=45:=rfl
  simp only[e45]
  rw[if_pos (show 45=43\/True from .inr trivial)]
  unfold M2
  rcases hp with hp|⟨hp,hgt⟩
  ·rw[hp]
   simp only[not_true_eq_false,true_and,false_and,if_false,if_true]
   by_cases hle:EL 0 (d::l)<=9223372036854775808
   ·rw[if_pos hle,if_neg (show ¬2 ^ (64-1)<EL 0 (d::l)by omega)]
   ·rw[if_neg hle,if_pos (show 2 ^ (64-1)<EL 0 (d::l)by omega)]
  ·rw[hp]
   simp only[if_true]
   rw[if_neg (show ¬EL 0 (d::l)<=9223372036854775808 by omega)]
theorem Fr.skip {Z:H} (ht:Ci Z):Fr BQ Z ⟨Z.next+1,Z.bl⟩:=⟨fun c hc=>ht c (by have hc:Z.next+1<=c:=hc;omega),D3 _,fun _ _ _=>rfl⟩
section
variable {E:EB} {D:BB} {W:AJ} {N:Nat}
theorem fN (hP:LD (D 27)) (hD:Lw (D 31)) {b:Nat} {s:BS} (f g:Int):∀(r:List Nat) (n i:Nat) (Z:H),r.length<n->Rd Z b s i r ->
  ∃Z',TC E D W N n b 0 f g Z=QU E D W N b 0 f g Z'/\Rd Z' b s (i+B0 Bj r) (r.drop (B0 Bj r))/\Fr (fun c=>c=b) Z Z'
 | [],n,i,Z,hn,h=>by
  obtain⟨n,rfl⟩:∃m,n=m+1:=⟨n-1,by omega⟩
  refine⟨Z,?_,h,Fr.refl h.ht⟩
  have p0:=hP 0 h (by decide)
  have p0:D 27 [.ptr b 0,.int .i64 (AA 0)] Z=some (.int .u8 (AA 0),Z):=p0
  have g2:=hD Z 0
  rw[show Bj 0=false from rfl]at g2
  show KR E D W (QU E D W N) _ b 0 f g Z=_
  have key:∀K R,KR E D W K R b 0 f g Z=K b 0 f g Z:=by
   intro K R
   unfold KR
   simp -implicitDefEqProofs only [↓rP,rA,AD,AE,AB,↓p0,↓g2]
  exact key _ _
 | c::r,n,i,Z,hn,h=>by
  obtain⟨n,rfl⟩:∃m,n=m+1:=⟨n-1,by omega⟩
  have a:=h.at_
  have hle:=h.t5.le
  have p0:=hP 0 h (by decide)
  have p0:D 27 [.ptr b 0,.int .i64 (AA 0)] Z=some (.int .u8 (AA c),Z):=p0
  have g2:=hD Z c
  have a1:CJ .i64 (AA i) (AA 1)=AA (i+1):=Bw (by omega)
  obtain⟨Z1,s1,r1,f1⟩:=h.adv (k:=1) (by simp)
  rw[FX]
  show ∃Z',KR E D W (QU E D W N) (TC E D W N n) b 0 f g Z=_/\_
  cases hc:Bj c with
  | true=>
   rw[hc]at g2
   obtain⟨Z',e',r',f'⟩:=fN hP hD f g r n (i+1) Z1 (by simp at hn;omega) r1
   refine⟨Z',?_,?_,f1.trans f' (fun _ _ h=>h)⟩
   ·have key:∀K R,KR E D W K R b 0 f g Z=R b 0 f g Z1:=by
     intro K R
     unfold KR
     simp -implicitDefEqProofs only [↓rP,rA,AD,AE,AB,↓p0,↓g2,↓Av a,a1,↓s1]
    rw[key,e']
   ·show Rd Z' b s (i+(B0 Bj r+1)) (r.drop (B0 Bj r))
    rw[show i+(B0 Bj r+1)=i+1+B0 Bj r by omega]
    exact r'
  | false=>
   rw[hc]at g2
   refine⟨Z,?_,h,Fr.refl h.ht⟩
   have key:∀K R,KR E D W K R b 0 f g Z=K b 0 f g Z:=by
    intro K R
    unfold KR
    simp -implicitDefEqProofs only [↓rP,rA,AD,AE,AB,↓p0,↓g2]
   exact key _ _
theorem j9 (hP:LD (D 27)) (hL:Oi (D 29)) {te:TypeId} (hI:D 45=Nu te) {Z:H} {b i:Nat} {s:BS} {m:Bool} {ds nx:List Nat} (h0:KZ s i (EC m ds++nx)) (hd:∀d∈ds,Bj d=true) (hne:ds≠[]) (h:Rd Z b s (i+(EC m ds).length) nx) :
  ∃Z',QU E D W N b 0 (AA i) (AA (if m=true then i+1 else i)) Z=some (Xe (if Jc m ds (nx.headD 0)=true then(3,EC m ds,nx)else(0,[],nx)),Z')/\Rd Z' b s (i+(EC m ds).length) nx/\Fr (fun c=>c=b) Z Z':=by
 have a:=h.at_
 have hle:=h.t5.le
 have few:=h0.few
 have hdl:1<=ds.length:=by cases ds with | nil=>exact absurd rfl hne | cons _ _=>simp
 have bw:∀c∈EC m ds,c<256:=fun c hc=>h0.r.bd c (List.mem_append_left _ hc)
 have nl:(EC m ds).length=(if m=true then ds.length+1 else ds.length):=by unfold EC;split<;>simp
 have ct:=fun J=>h0.cut (k:=(EC m ds).length) (by simp) J
 rw[List.take_left]at ct
 have h5:KZ s (if m=true then i+1 else i) (ds++nx):=by
  cases m with
  | false=>exact h0
  | true=>exact KZ.tl (show KZ s i (45::(ds++nx))from h0)
 have ix:∀J:Int->AH,Ei s (AA (if m=true then i+1 else i)) J=J (AA (ds.headD 0)):=by
  obtain⟨d,l,rfl⟩:∃d l,ds=d::l:=by
   cases ds with
   | nil=>exact absurd rfl hne
   | cons d l=>exact⟨d,l,rfl⟩
  exact KZ.ix (show KZ s _ (d::(l++nx))from h5)
 have hlw:(EC m ds).length<=10000:=by have:=h0.len;simp only[Aw]at this;omega
 have sb:JQ .i64 (AA (i+(EC m ds).length)) (AA (if m=true then i+1 else i))=AA ds.length:=by
  rw[nl]
  cases m with
  | false=>
   simp only[Cd,if_false]at nl ⊢
   rw[JP (by omega) (by omega),show i+ds.length-i=ds.length by omega]
  | true=>
   simp only[if_true]at nl ⊢
   rw[JP (by omega) (by omega),show i+(ds.length+1)-(i+1)=ds.length by omega]
 have lf:Dt (AA i) (AA (if m=true then i+1 else i))=m:=by
  rw[RA]
  cases m with
  | false=>exact decide_eq_false (by rw[if_neg (by decide)];omega)
  | true=>exact decide_eq_true (by rw[if_pos rfl];omega)
 have hp:=pib (m:=m) hd hne
 have pI:D 45 [.str (Cj (EC m ds)),.int .i64 (AA 10),.int .i64 (AA 64)] Z=(match decide (EL 0 ds<=M2 m)with
   | true=>some (V.tup [.int .i64 (if m=true then -((EL 0 ds:Nat):Int)else((EL 0 ds:Nat):Int)),.nili],Z)
   | false=>some (V.tup [.int .i64 (Go.Lib.intSat 64 (Cj (EC m ds)).toList),.ifc te (.ptr Z.next 0)],⟨Z.next+1,Z.bl⟩)):=by
  rw[hI]
  show (if(Cj (EC m ds)).len<=1000000 then(match Go.Lib.parseIntB 64 (Cj (EC m ds)).toList with
   | .ok v=>some (V.tup [.int .i64 v,.nili],Z)
   | .range=>some (V.tup [.int .i64 (Go.Lib.intSat 64 (Cj (EC m ds)).toList),.ifc te (.ptr Z.next 0)],⟨Z.next+1,Z.bl⟩)
   | _=>none)else none)=_
  rw[if_pos (by rw[Fo];omega)]
  have hq:Go.Lib.parseIntB 64 (Cj (EC m ds)).toList=if EL 0 ds<=M2 m then .ok (if m=true then -((EL 0 ds:Nat):Int)else((EL 0 ds:Nat):Int))else .range:=by rw[Kn bw];exact hp
  by_cases hv:EL 0 ds<=M2 m
  ·rw[hq,if_pos hv,decide_eq_true hv]
  ·rw[if_neg hv]at hq
   rw[decide_eq_false hv,hq]
 have p0:=hP 0 h (by decide)
 rw[G8]at p0
 have gl:=hL Z (nx.headD 0)
 unfold Jc
 show ∃Z',VO E D W b 0 (AA i) (AA (if m=true then i+1 else i)) Z=_/\_
 generalize (if m=true then i+1 else i)=g at ix sb lf ⊢
 generalize (EC m ds).length=wl at a ct sb pI h ⊢
 generalize EC m ds=w at ct pI ⊢
 cases hv:decide (EL 0 ds<=M2 m)with
 | false=>
  rw[hv]at pI
  refine⟨⟨Z.next+1,Z.bl⟩,?_,h.fr (Fr.skip h.ht) (fun h=>h),(Fr.skip h.ht).mono (fun _ _ h=>h.elim)⟩
  have pI:D 45 [.str (Cj w),.int .i64 (AA 10),.int .i64 (AA 64)] Z=some (.tup [.int .i64 (Go.Lib.intSat 64 (Cj w).toList),.ifc te (.ptr Z.next 0)],⟨Z.next+1,Z.bl⟩):=pI
  have ek:∀J:Bool->AH,TQ (.iface true) (.ifc te (.ptr Z.next 0)) V.nili J=J false:=fun J=>rfl
  unfold VO
  simp -implicitDefEqProofs only [↓rP,rA,AD,AE,AB,↓Av a,↓ct,↓ix,↓pI,↓ek]
  rfl
 | true=>
  rw[hv]at pI
  refine⟨Z,?_,h,Fr.refl h.ht⟩
  have pI:D 45 [.str (Cj w),.int .i64 (AA 10),.int .i64 (AA 64)] Z=some (.tup [.int .i64 (if m=true then -((EL 0 ds:Nat):Int)else((EL 0 ds:Nat):Int)),.nili],Z):=pI
  have ek:∀J:Bool->AH,TQ (.iface true) V.nili V.nili J=J true:=fun J=>rfl
  generalize (if m=true then -((EL 0 ds:Nat):Int)else((EL 0 ds:Nat):Int))=nv at pI
  unfold VO
  cases h1:decide (ds.headD 0=48)<;>cases h2:decide (1<ds.length)<;>cases hm:m<;>cases h3:IX (nx.headD 0)<;>rw[h3]at gl<;>rw[hm]at lf <;>
   simp -implicitDefEqProofs only [↓rP,rA,AD,AE,AB,↓Av a,↓ct,↓ix,↓pI,↓ek,h1,sb,h2,lf,↓p0,↓gl]<;>rfl
theorem j6 (hP:LD (D 27)) (hL:Oi (D 29)) (hD:Lw (D 31)) {te:TypeId} (hI:D 45=Nu te) (hN:10000<N) :
  M6 (fun r=>(∃c l,r=c::l/\Bj c=true)\/∃l,r=45::l/\Bj (l.headD 0)=true) SG (oA E D W N):=by
 intro Z b i s r h hok
 have a:=h.at_
 have hle:=h.t5.le
 have hlen:=h.t5.len
 have hfew:=h.t5.few
 have p0:=hP 0 h (by decide)
 rw[G8]at p0
 have a1:CJ .i64 (AA i) (AA 1)=AA (i+1):=Bw (by omega)
 have fin:∀(m:Bool) (q:List Nat) (Z1:H),r=(if m=true then 45::q else q)->Bj (q.headD 0)=true->Rd Z1 b s (if m=true then i+1 else i) q->Fr (fun c=>c=b) Z Z1->m=decide (r.headD 0=45) ->
   QV E D W N b 0 (AA i) Z1=QV E D W N b 0 (AA i) Z1 ->
   ∃i' Z',QV E D W N b 0 (AA i) Z1=some (Xe (SG r),Z')/\Rd Z' b s i' (SG r).2.2/\Fr (fun c=>c=b) Z Z':=by
  intro m q Z1 hr hq r1 f1 hm _
  obtain⟨Z2,e2,r2,f2⟩:=fN (E:=E) (W:=W) (N:=N) hP hD (AA i) (AA (if m=true then i+1 else i)) q N _ Z1 (by have:=r1.t5.len;have:=r1.t5.few;omega) r1
  have hn1:1<=B0 Bj q:=by
   cases q with
   | nil=>cases hq
   | cons c l=>rw[FX,show Bj c=true from hq];exact eI _
  have hnl:=Q0 Bj q
  have lt:(q.take (B0 Bj q)).length=B0 Bj q:=by rw[Cl];omega
  have eq1:r=EC m (q.take (B0 Bj q))++q.drop (B0 Bj q):=by
   rw[hr]
   unfold EC
   cases m with
   | false=>simp
   | true=>simp
  have el:(if m=true then i+1 else i)+B0 Bj q=i+(EC m (q.take (B0 Bj q))).length:=by
   unfold EC
   cases m with
   | false=>simp only[Cd,if_false];omega
   | true=>simp only[if_true,AM];omega
  rw[el]at r2
  have h0:KZ s i (EC m (q.take (B0 Bj q))++q.drop (B0 Bj q)):=by rw[<-eq1];exact h.t5
  obtain⟨Z3,e3,r3,f3⟩:=j9 (E:=E) (W:=W) (N:=N) hP hL hI h0 (LO Bj q) (fun e=>by rw[e]at lt;simp at lt;omega) r2
  have eT:SG r=if Jc m (q.take (B0 Bj q)) ((q.drop (B0 Bj q)).headD 0)=true then(3,EC m (q.take (B0 Bj q)),q.drop (B0 Bj q))else(0,[],q.drop (B0 Bj q)):=by
   have hqq:(if decide (r.headD 0=45)=true then r.drop 1 else r)=q:=by
    rw[<-hm,hr]
    cases m<;>rfl
   unfold SG
   simp only[]
   rw[hqq,<-hm]
  have a2:=r1.at_
  refine⟨i+(EC m (q.take (B0 Bj q))).length,Z3,?_,?_,(f1.trans f2 (fun _ _ h=>h)).trans f3 (fun _ _ h=>h)⟩
  ·show Sx E D W (TC E D W N N) b 0 (AA i) Z1=_
   have key:∀K,Sx E D W K b 0 (AA i) Z1=K b 0 (AA i) (AA (if m=true then i+1 else i)) Z1:=by
    intro K
    unfold Sx
    simp -implicitDefEqProofs only [↓rP,rA,AD,AE,AB,↓Av a2]
   rw[key,e2,e3,eT]
  ·rw[eT]
   split<;>exact r3
 show ∃i' Z',Ob E D W (QV E D W N) b 0 Z=_/\_
 rcases hok with ⟨c,l,rfl,hc⟩|⟨l,rfl,hc⟩
 ·have hc2:=Ll hc
  have d0:decide (c=45)=false:=decide_eq_false (by omega)
  have p0:D 27 [.ptr b 0,.int .i64 (AA 0)] Z=some (.int .u8 (AA c),Z):=p0
  have key:∀K,Ob E D W K b 0 Z=K b 0 (AA i) Z:=by
   intro K
   unfold Ob
   simp -implicitDefEqProofs only [↓rP,rA,AD,AE,AB,↓Av a,↓p0,d0]
  rw[key]
  exact fin false (c::l) Z rfl hc h (Fr.refl h.ht) d0.symm rfl
 ·have p0:D 27 [.ptr b 0,.int .i64 (AA 0)] Z=some (.int .u8 (AA 45),Z):=p0
  obtain⟨Z1,s1,r1,f1⟩:=h.adv (k:=1) (by simp)
  have key:∀K,Ob E D W K b 0 Z=K b 0 (AA i) Z1:=by
   intro K
   unfold Ob
   simp -implicitDefEqProofs only [↓rP,rA,AD,AE,AB,↓Av a,↓p0,a1,↓s1]
  rw[key]
  exact fin true l Z1 rfl hc r1 f1 rfl rfl
theorem fK (hP:LD (D 27)) (hD:Lw (D 31)) {b:Nat} {s:BS} (f:Int):∀(r:List Nat) (n i:Nat) (Z:H),r.length<n->Rd Z b s i r ->
  ∃Z',TB E D W N n b 0 f (AA (r.headD 0)) Z=TH E D W N b 0 f Z'/\Rd Z' b s (i+B0 DK r) (r.drop (B0 DK r))/\Fr (fun c=>c=b) Z Z'
 | [],n,i,Z,hn,h=>by
  obtain⟨n,rfl⟩:∃m,n=m+1:=⟨n-1,by omega⟩
  refine⟨Z,?_,h,Fr.refl h.ht⟩
  have g2:=hD Z 0
  rw[show Bj 0=false from rfl]at g2
  show KQ E D W (TH E D W N) _ b 0 f (AA 0) Z=_
  have key:∀K R,KQ E D W K R b 0 f (AA 0) Z=K b 0 f Z:=by
   intro K R
   unfold KQ
   simp -implicitDefEqProofs only [↓rP,rA,AD,AE,AB,↓g2]
  exact key _ _
 | c::r,n,i,Z,hn,h=>by
  obtain⟨n,rfl⟩:∃m,n=m+1:=⟨n-1,by omega⟩
  have a:=h.at_
  have hle:=h.t5.le
  have g2:=hD Z c
  have a1:CJ .i64 (AA i) (AA 1)=AA (i+1):=Bw (by omega)
  obtain⟨Z1,s1,r1,f1⟩:=h.adv (k:=1) (by simp)
  have p2:=hP 0 r1 (by decide)
  rw[show ((c::r).drop 1).getD 0 0=r.headD 0 from G8 r]at p2
  rw[FX]
  show ∃Z',KQ E D W (TH E D W N) (TB E D W N n) b 0 f (AA c) Z=_/\_
  cases hc:DK c with
  | true=>
   obtain⟨Z',e',r',f'⟩:=fK hP hD f r n (i+1) Z1 (by simp at hn;omega) r1
   refine⟨Z',?_,?_,f1.trans f' (fun _ _ h=>h)⟩
   ·have key:∀K R,KQ E D W K R b 0 f (AA c) Z=R b 0 f (AA (r.headD 0)) Z1:=by
     intro K R
     unfold DK at hc
     unfold KQ
     cases h1:Bj c<;>cases h2:decide (65<=c)<;>cases h3:decide (c<=70)<;>rw[h1,h2,h3]at hc<;>rw[h1]at g2 <;>
      first
      | (cases hc;done)
      | simp -implicitDefEqProofs only [↓rP,rA,AD,AE,AB,↓Av a,↓g2,h2,h3,a1,↓s1,↓p2]
    rw[key,e']
   ·show Rd Z' b s (i+(B0 DK r+1)) (r.drop (B0 DK r))
    rw[show i+(B0 DK r+1)=i+1+B0 DK r by omega]
    exact r'
  | false=>
   refine⟨Z,?_,h,Fr.refl h.ht⟩
   have key:∀K R,KQ E D W K R b 0 f (AA c) Z=K b 0 f Z:=by
    intro K R
    unfold DK at hc
    unfold KQ
    cases h1:Bj c<;>cases h2:decide (65<=c)<;>cases h3:decide (c<=70)<;>rw[h1,h2,h3]at hc<;>rw[h1]at g2 <;>
     first
     | (cases hc;done)
     | simp -implicitDefEqProofs only [↓rP,rA,AD,AE,AB,↓Av a,↓g2,h2,h3]
   exact key _ _
theorem kM (hP:LD (D 27)) (hD:Lw (D 31)) (hA:S3 (D 28)) (hN:10000<N):M6 (fun r=>∃l,r=39::l) Up (n9 E D W N):=by
 intro Z b i s r h hok
 obtain⟨l,rfl⟩:=hok
 have a:=h.at_
 have hle:=h.t5.le
 have hfew:=h.t5.few
 have a1:CJ .i64 (AA i) (AA 1)=AA (i+1):=Bw (by omega)
 obtain⟨Z1,s1,r1,f1⟩:=h.adv (k:=1) (by simp)
 have r1:Rd Z1 b s (i+1) l:=r1
 have b1:=r1.at_
 have p1:=hP 0 r1 (by decide)
 rw[G8]at p1
 have hlen1:=r1.t5.len
 obtain⟨Z2,e2,r2,f2⟩:=fK (E:=E) (W:=W) (N:=N) hP hD (AA (i+1)) l N (i+1) Z1 (by omega) r1
 have hnl:=Q0 DK l
 have ct:=fun J=>r1.t5.cut (k:=B0 DK l) hnl J
 have b2:=r2.at_
 have g:=hA (BS.mk 2 18471) r2
 have lt:(l.take (B0 DK l)).length=B0 DK l:=by rw[Cl];omega
 have ln:(Cj (l.take (B0 DK l))).len=B0 DK l:=by rw[Fo,lt]
 have f12:=f1.trans f2 (fun _ _ h=>h)
 have md:Int.tmod (AA (B0 DK l)) (AA 2)=AA (B0 DK l % 2):=rfl
 have k0:∀K,Sw E D W K b 0 Z=K b 0 (AA (i+1)) (AA (l.headD 0)) Z1:=by
  intro K
  unfold Sw
  simp -implicitDefEqProofs only [↓rP,rA,AD,AE,AB,↓Av a,a1,↓s1,↓Av b1,↓p1]
 have eT:Up (39::l)=if(decide (B0 DK l % 2=0)&&Wf (BS.mk 2 18471) (l.drop (B0 DK l)))=true then(4,l.take (B0 DK l),(l.drop (B0 DK l)).drop 2)else(0,[],l.drop (B0 DK l)):=by
  unfold Up
  show (if(decide ((l.take (B0 DK l)).length % 2=0)&&_)=true then _ else _)=_
  rw[lt]
  rfl
 rw[eT]
 show ∃i' Z',Sw E D W (TB E D W N N) b 0 Z=_/\_
 rw[k0,e2]
 show ∃i' Z',Sv E D W b 0 (AA (i+1)) Z2=_/\_
 have a3:CJ .i64 (AA (i+1+B0 DK l)) (AA 2)=AA (i+1+B0 DK l+2):=Bw (by omega)
 generalize l.take (B0 DK l)=w at ct ln ⊢
 cases h1:decide (B0 DK l % 2=0)with
 | false=>
  refine⟨i+1+B0 DK l,Z2,?_,r2,f12⟩
  unfold Sv
  simp -implicitDefEqProofs only [↓rP,rA,AD,AE,AB,↓Av b2,↓ct,ln,md,h1]
  rfl
 | true=>
  cases h2:Wf (BS.mk 2 18471) (l.drop (B0 DK l))with
  | false=>
   rw[h2]at g
   refine⟨i+1+B0 DK l,Z2,?_,r2,f12⟩
   unfold Sv
   simp -implicitDefEqProofs only [↓rP,rA,AD,AE,AB,↓Av b2,↓ct,ln,md,h1,↓g]
   rfl
  | true=>
   rw[h2]at g
   have hl2:2<=(l.drop (B0 DK l)).length:=by
    unfold Wf at h2
    rw[AF,decide_eq_true_eq]at h2
    exact h2.1
   obtain⟨Z3,s3,r3,f3⟩:=r2.adv hl2
   refine⟨i+1+B0 DK l+2,Z3,?_,r3,f12.trans f3 (fun _ _ h=>h)⟩
   unfold Sv
   simp -implicitDefEqProofs only [↓rP,rA,AD,AE,AB,↓Av b2,↓ct,ln,md,h1,↓g,a3,↓s3]
   rfl
end
def Gj:List Nat:=BT 128 240++(BT 66 241++(BT 30 2++([19]++(BT 12 3++([35]++(BT 2 3++([52]++(BT 3 4++([68]++BT 11 241)))))))))
def HB:List Nat:=[128,191,160,191,128,159,144,191,128,143]++BT 22 0
def Wy (l:List Nat):List V:=l.map fun c => .int .u8 (AA c)
theorem Ye:Gj.length=256:=by decide +kernel
theorem Se:HB.length=32:=by decide +kernel
def Tm (a b c:Nat):Bool:=decide (a<=c)&&decide (c<=b)
def Pc (c:Nat) (r:List Nat):Option Nat:=
 let x:=Gj.getD c 0
 let lo:=HB.getD (x / 16*2) 0
 let hi:=HB.getD (x / 16*2+1) 0
 if x % 8=2 then(if(decide (1<=r.length)&&Tm lo hi (r.getD 0 0))=true then some 1 else none)
 else if x % 8=3 then(if(decide (2<=r.length)&&(Tm lo hi (r.getD 0 0)&&Tm 128 191 (r.getD 1 0)))=true then some 2 else none)
 else if x % 8=4 then(if(decide (3<=r.length)&&(Tm lo hi (r.getD 0 0)&&(Tm 128 191 (r.getD 1 0)&&Tm 128 191 (r.getD 2 0))))=true then some 3 else none)
 else none
def Kb:Nat->List Nat->Bool
 | 0,_=>true
 | _+1,[]=>true
 | n+1,c::r=>match decide (c<128)with
  | true=>Kb n r
  | false=>match Pc c r with
   | some k=>Kb n (r.drop k)
   | none=>false
theorem NW:∀(n m:Nat) (r:List Nat),r.length<=n->r.length<=m->Kb n r=Kb m r
 | 0,0,_,_,_=>rfl
 | 0,m+1,[],_,_=>rfl
 | 0,m+1,c::r,h,_=>by simp at h
 | n+1,0,[],_,_=>rfl
 | n+1,0,c::r,_,h=>by simp at h
 | n+1,m+1,[],_,_=>rfl
 | n+1,m+1,c::r,h1,h2=>by
  simp only[AM]at h1 h2
  unfold Kb
  cases decide (c<128)with
  | true=>exact NW n m r (by omega) (by omega)
  | false=>
   cases Pc c r with
   | none=>rfl
   | some k=>exact NW n m (r.drop k) (by rw[Aa];omega) (by rw[Aa];omega)
def C9 (r:List Nat):Bool:=Kb r.length r
theorem PZ {c:Nat} {r:List Nat} (h:c<128):C9 (c::r)=C9 r:=by
 unfold C9
 show (match decide (c<128)with | true=>_ | false=>_)=_
 rw[decide_eq_true h]
theorem Vr {c:Nat} {r:List Nat} (h:¬c<128):C9 (c::r)=match Pc c r with
  | some k=>C9 (r.drop k)
  | none=>false:=by
 unfold C9
 show (match decide (c<128)with | true=>_ | false=>_)=_
 rw[decide_eq_false h]
 show (match Pc c r with | some k=>Kb r.length (r.drop k) | none=>false)=_
 cases Pc c r with
 | none=>rfl
 | some k=>exact NW _ _ _ (by rw[Aa];omega) (AG _)
theorem Em:∀(k:Nat) (r:List Nat),(∀x∈r.take k,x<128)->C9 (r.drop k)=C9 r
 | 0,_,_=>rfl
 | k+1,[],_=>rfl
 | k+1,c::r,h=>by
  rw[bE,Em k r (fun x hx=>h x (Ah _ hx)),PZ (h c (As ..))]
theorem YE:IE .u64=18446744073709551615:=rfl
theorem Fm {a b:Nat} (ha:a<18446744073709551616) (hb:b<18446744073709551616):J4 .u64 (AA a) (AA b)=AA (a ||| b):=by
 unfold J4 JS
 simp only[]
 rw[show (Ab a (IE .u64)&&Ab b (IE .u64))=true by
  rw[YE,AF,Ai,Ai];omega]
 rfl
theorem LC {a b:Nat} (ha:a<18446744073709551616) (hb:b<18446744073709551616):KH .u64 (AA a) (AA b)=AA (a &&& b):=by
 unfold KH JS
 simp only[]
 rw[show (Ab a (IE .u64)&&Ab b (IE .u64))=true by
  rw[YE,AF,Ai,Ai];omega]
 rfl
theorem Xd {c k:Nat} (hc:c<256) (hk:k<=56):G3 .u64 (AA c) k=AA (c*2 ^ k):=by
 have h1:2 ^ k<=2 ^ 56:=Ww (by decide) hk
 have h2:c*2 ^ k<=255*2 ^ 56:=Nat.mul_le_mul (by omega) h1
 show B4 .u64 (AA (c*Nat.pow 2 (Fz k 64)))=_
 rw[show Fz k 64=k from aq (by omega)]
 exact HG (show c*2 ^ k<=18446744073709551615 by omega)
def H8:Nat:=9259542123273814144
theorem cu:∀c:Fin 256,∀k:Fin 8,(c.val*2 ^ (8*k.val)) &&& H8=0->c.val<128:=by decide +kernel
theorem Eo {a b h:Nat} (e:(a ||| b) &&& h=0):a &&& h=0/\b &&& h=0:=by
 rw[Nat.and_or_distrib_right]at e
 exact Nat.or_eq_zero_iff.1 e
theorem Fl {a b:Nat} (ha:a<18446744073709551616) (hb:b<18446744073709551616):a ||| b<18446744073709551616:=Nat.or_lt_two_pow (n:=64) ha hb
theorem U0 {c k:Nat} (hc:c<256) (hk:k<8):c*2 ^ (8*k)<18446744073709551616:=by
 have h1:2 ^ (8*k)<=2 ^ 56:=Ww (by decide) (by omega)
 have h2:c*2 ^ (8*k)<=255*2 ^ 56:=Nat.mul_le_mul (by omega) h1
 omega
def w8 (l:List Nat):Nat:=(((((((l.getD 0 0*2 ^ (8*0)) ||| (l.getD 1 0*2 ^ (8*1))) ||| (l.getD 2 0*2 ^ (8*2))) ||| (l.getD 3 0*2 ^ (8*3))) ||| (l.getD 4 0*2 ^ (8*4))) ||| (l.getD 5 0*2 ^ (8*5))) ||| (l.getD 6 0*2 ^ (8*6))) ||| (l.getD 7 0*2 ^ (8*7))
theorem Li {l:List Nat} (h:∀c∈l,c<256) (i:Nat):l.getD i 0<256:=by
 rw[BA]
 by_cases hi:i<l.length
 ·rw[AY hi];exact h _ (UK hi)
 ·rw[Af (by omega)];decide
theorem LK {l:List Nat} (h:∀c∈l,c<256):w8 l<18446744073709551616:=by
 have b:∀i,i<8->l.getD i 0*2 ^ (8*i)<18446744073709551616:=fun i hi=>U0 (Li h i) hi
 unfold w8
 exact Fl (Fl (Fl (Fl (Fl (Fl (Fl (b 0 (by decide)) (b 1 (by decide))) (b 2 (by decide))) (b 3 (by decide))) (b 4 (by decide))) (b 5 (by decide))) (b 6 (by decide))) (b 7 (by decide))
theorem Ka {l:List Nat} (h:∀c∈l,c<256) (h8:8<=l.length) (e:w8 l &&& H8=0):∀x∈l.take 8,x<128:=by
 have g:∀i (hi:i<8),(l.getD i 0*2 ^ (8*i)) &&& H8=0->l.getD i 0<128:=fun i hi e=>cu ⟨l.getD i 0,Li h i⟩ ⟨i,hi⟩ e
 unfold w8 at e
 obtain⟨e,e7⟩:=Eo e
 obtain⟨e,e6⟩:=Eo e
 obtain⟨e,e5⟩:=Eo e
 obtain⟨e,e4⟩:=Eo e
 obtain⟨e,e3⟩:=Eo e
 obtain⟨e,e2⟩:=Eo e
 obtain⟨e0,e1⟩:=Eo e
 have g0:=g 0 (by decide) e0
 have g1:=g 1 (by decide) e1
 have g2:=g 2 (by decide) e2
 have g3:=g 3 (by decide) e3
 have g4:=g 4 (by decide) e4
 have g5:=g 5 (by decide) e5
 have g6:=g 6 (by decide) e6
 have g7:=g 7 (by decide) e7
 intro x hx
 obtain⟨i,hi,rfl⟩:=List.mem_iff_getElem.1 hx
 rw[Cl]at hi
 rw[List.getElem_take]
 have ei:l[i]'(by omega)=l.getD i 0:=by rw[BA,AY (by omega)];rfl
 rw[ei]
 match i,hi with
 | 0,_=>exact g0
 | 1,_=>exact g1
 | 2,_=>exact g2
 | 3,_=>exact g3
 | 4,_=>exact g4
 | 5,_=>exact g5
 | 6,_=>exact g6
 | 7,_=>exact g7
 | i+8,hi=>omega
structure OW (E:EB) (Z:H):Prop where
 n:100<=Z.next
 h0:Bl Z.bl 0=none
 h1:Bl Z.bl 1=none
 e0:Bl E 0=some (.cells (Wy Gj))
 e1:Bl E 1=some (.cells (Wy HB))
theorem OW.fr {E:EB} {S:Nat->Prop} {Z Z':H} (h:OW E Z) (f:Fr S Z Z') (hS:∀b,S b->100<=b):OW E Z':=
 ⟨AN h.n f.le,(f.same 0 (by have:=h.n;omega) (fun e=>by have:=hS _ e;omega)).trans h.h0,(f.same 1 (by have:=h.n;omega) (fun e=>by have:=hS _ e;omega)).trans h.h1,h.e0,h.e1⟩
theorem UR {l:List Nat} {i:Nat} (h:i<l.length):(Wy l)[i]? = some (.int .u8 (AA (l.getD i 0))):=by
 unfold Wy
 rw[Bk,AY h,BA,AY h];rfl
theorem OW.ld0 {E:EB} {Z:H} (h:OW E Z) {c:Nat} (hc:c<256) (J:V->AH):Bm E Z 0 c J=J (.int .u8 (AA (Gj.getD c 0))):=by
 unfold Bm bn
 rw[h.h0]
 simp only[h.e0]
 refine LV ?_
 rw[LW];exact UR (by rw[Ye];exact hc)
theorem OW.ld1 {E:EB} {Z:H} (h:OW E Z) {k:Nat} (hk:k<16) (J:List V->AH):DB E Z 1 (k*2) 2 J=J [.int .u8 (AA (HB.getD (k*2) 0)),.int .u8 (AA (HB.getD (k*2+1) 0))]:=by
 unfold DB bn
 rw[h.h1]
 simp only[h.e1]
 have hl:(Wy HB).length=32:=by unfold Wy;rw[Ea,Se]
 rw[NA (by omega)]
 congr 1
 apply FO
 intro j
 rw[DN]
 by_cases hj:j<2
 ·rw[if_pos hj,CL,UR (by rw[Se];omega)]
  match j,hj with
  | 0,_=>rfl
  | 1,_=>rfl
 ·rw[if_neg hj,Af (by simp;omega)]
structure Ox (E:EB) (Z:H) (x:V) (l:List Nat):Prop where
 is:(l=[]/\x = .nils)\/∃b o,x = .sl b o l.length (.ex l.length)/\∀(i:Nat),i<l.length->∀J:V->AH,Bm E Z b (o+i) J=J (.int .u8 (AA (l.getD i 0)))
 bd:∀c∈l,c<256
 few:l.length<=100000
section
variable {E:EB} {D:BB} {W:AJ} {N:Nat} {Z:H} {x:V} {l:List Nat}
theorem Ox.slen (h:Ox E Z x l) (J:Nat->AH):BG x J=J l.length:=by
 rcases h.is with ⟨rfl,rfl⟩|⟨_,_,rfl,_⟩<;>rfl
theorem Ox.rd (h:Ox E Z x l) {i:Nat} (hi:i<l.length) (J:V->AH):Am 1 x (AA i) (fun b o=>Bm E Z b o J)=J (.int .u8 (AA (l.getD i 0))):=by
 rcases h.is with ⟨rfl,rfl⟩|⟨b,o,rfl,hr⟩
 ·cases hi
 ·rw[Dy hi]
  show Bm E Z b (o+i*1) J=_
  rw[FC];exact hr i hi J
theorem Ox.cut (h:Ox E Z x l) {k:Nat} (hk:k<=l.length) (h0:l≠[]):∃y,(∀J:V->AH,gK (DA 1 x (some (.int .i64 (AA k))) none none) J=J y)/\Ox E Z y (l.drop k):=by
 rcases h.is with ⟨rfl,rfl⟩|⟨b,o,rfl,hr⟩
 ·exact absurd rfl h0
 ·refine⟨.sl b (if Ag l.length k then o else o+k*1) (l.drop k).length (.ex (l.drop k).length),fun J=>?_,⟨.inr ⟨b,_,rfl,fun i hi J=>?_⟩,fun c hc=>h.bd c (Bf hc),by rw[Aa];have:=h.few;omega⟩⟩
  ·rw[Aa]
   show gK (if(Ab k l.length&&Ab l.length l.length&&(Option.isNone (α:=V) none || Ab l.length l.length))=true then some (V.sl b (if Ag l.length k then o else o+k*1) (l.length-k) (.ex (l.length-k)))else none) J=_
   rw[if_pos (by simp[hk])]
   rfl
  ·rw[Aa]at hi
   have hb:Ag l.length k=false:=by
    rw[FP];intro e
    have:=BO e
    omega
   rw[hb]
   show Bm E Z b (o+k*1+i) J=_
   rw[show o+k*1+i=o+(k+i)by omega,hr (k+i) (by omega)]
   congr 3
   rw[BA,BA,CL]
end
def ZZ (E:EB) (F:List V->H->AH):Prop:=∀{Z:H} {x:V} {l:List Nat},Ox E Z x l->8<=l.length->F [x] Z=some (.int .u64 (AA (w8 l)),Z)
def CpO (x:V):Prop:=match x with
 | .sl _ _ n (.ex c)=>n<=c
 | .sl _ _ _ (.op e)=>e=1
 | _=>True
def di (E:EB) (F:List V->H->AH):Prop:=∀{Z:H} {x:V} {l:List Nat},OW E Z->By Z x (nI l)->CpO x->(∀c∈l,c<256)->l.length<=100000->F [x] Z=some (.bool (C9 l),Z)
section
variable {E:EB} {D:BB} {W:AJ} {N:Nat}
theorem xk:ZZ E (uN E D W N):=by
 intro Z x l h h8
 have rd:∀i,i<8->∀J,Am 1 x (AA i) (fun b o=>Bm E Z b o J)=J (.int .u8 (AA (l.getD i 0))):=fun i hi J=>h.rd (by omega) J
 have r0:=rd 0 (by decide)
 have r1:=rd 1 (by decide)
 have r2:=rd 2 (by decide)
 have r3:=rd 3 (by decide)
 have r4:=rd 4 (by decide)
 have r5:=rd 5 (by decide)
 have r6:=rd 6 (by decide)
 have r7:=rd 7 (by decide)
 have bd:=Li h.bd
 have b:∀i,i<8->l.getD i 0*2 ^ (8*i)<18446744073709551616:=fun i hi=>U0 (bd i) hi
 have w:∀i,B4 .u64 (AA (l.getD i 0))=AA (l.getD i 0):=fun i=>HG (by rw[YE];have:=bd i;omega)
 have s0:AA (l.getD 0 0)=AA (l.getD 0 0*2 ^ (8*0)):=by rw[Nat.mul_zero,Nat.pow_zero,FC]
 have s:∀k,k<8->G3 .u64 (AA (l.getD k 0)) (8*k)=AA (l.getD k 0*2 ^ (8*k)):=fun k hk=>Xd (bd k) (by omega)
 have b0:=b 0 (by decide)
 have b1:=b 1 (by decide)
 have b2:=b 2 (by decide)
 have b3:=b 3 (by decide)
 have b4:=b 4 (by decide)
 have b5:=b 5 (by decide)
 have b6:=b 6 (by decide)
 have b7:=b 7 (by decide)
 have s1:=s 1 (by decide)
 have s2:=s 2 (by decide)
 have s3:=s 3 (by decide)
 have s4:=s 4 (by decide)
 have s5:=s 5 (by decide)
 have s6:=s 6 (by decide)
 have s7:=s 7 (by decide)
 have goal:J4 .u64 (J4 .u64 (J4 .u64 (J4 .u64 (J4 .u64 (J4 .u64 (J4 .u64 (B4 .u64 (AA (l.getD 0 0))) (G3 .u64 (B4 .u64 (AA (l.getD 1 0))) 8)) (G3 .u64 (B4 .u64 (AA (l.getD 2 0))) 16)) (G3 .u64 (B4 .u64 (AA (l.getD 3 0))) 24)) (G3 .u64 (B4 .u64 (AA (l.getD 4 0))) 32)) (G3 .u64 (B4 .u64 (AA (l.getD 5 0))) 40)) (G3 .u64 (B4 .u64 (AA (l.getD 6 0))) 48)) (G3 .u64 (B4 .u64 (AA (l.getD 7 0))) 56)=AA (w8 l):=by
  rw[w,w,w,w,w,w,w,w,show (8:Nat)=8*1 from rfl,s1,show (16:Nat)=8*2 from rfl,s2,show (24:Nat)=8*3 from rfl,s3,show (32:Nat)=8*4 from rfl,s4,show (40:Nat)=8*5 from rfl,s5,show (48:Nat)=8*6 from rfl,s6,show (56:Nat)=8*7 from rfl,s7,s0]
  rw[Fm b0 b1]
  have c1:=Fl b0 b1
  rw[Fm c1 b2]
  have c2:=Fl c1 b2
  rw[Fm c2 b3]
  have c3:=Fl c2 b3
  rw[Fm c3 b4]
  have c4:=Fl c3 b4
  rw[Fm c4 b5]
  have c5:=Fl c4 b5
  rw[Fm c5 b6]
  have c6:=Fl c5 b6
  rw[Fm c6 b7]
  rfl
 show ZK E D W x Z=_
 unfold ZK
 simp -implicitDefEqProofs only [↓rP,rS,↓r0,↓r1,↓r2,↓r3,↓r4,↓r5,↓r6,↓r7,goal]
end
theorem yF {f:Nat} (hf:f<256):B4 .i64 (KH .u8 (AA f) (AA 7))=AA (f % 8):=by
 have e:KH .u8 (AA f) (AA 7)=AA (f &&& 7):=by
  unfold KH JS
  simp only[]
  rw[show (Ab f (IE .u8)&&Ab 7 (IE .u8))=true by
   rw[show IE .u8=255 from rfl,AF,Ai,Ai];omega]
  rfl
 rw[e,show f &&& 7=f % 8 from Nat.and_two_pow_sub_one_eq_mod f 3]
 exact HG (show f % 8<=9223372036854775807 by omega)
theorem xq (f:Nat):bX .u8 (AA f) 4=AA (f / 16):=rfl
theorem kO:∀c,Gj.getD c 0<256:=by
 intro c
 have:∀x∈Gj,x<256:=by decide +kernel
 exact Li this c
section
variable {E:EB} {D:BB} {W:AJ} {N:Nat}
theorem vl5 (hW:ZZ E (D 56)) (R:V->H->AH) {Z:H}:∀(m:Nat) (x:V) (l:List Nat),l.length<m->Ox E Z x l->∃y l',S9 E D W N R m x Z=R y Z/\Ox E Z y l'/\C9 l'=C9 l/\l'.length<=l.length
 | 0,x,l,h,_=>by omega
 | m+1,x,l,hm,h=>by
  show ∃y l',Lu E D W (TF E D W N R) (S9 E D W N R m) x Z=_/\_
  have sl:=fun J=>h.slen J
  by_cases h32:32<l.length
  ·have hne:l≠[]:=fun e=>by rw[e]at h32;cases h32
   have d1:decide (32<l.length)=true:=decide_eq_true h32
   obtain⟨y8,s8,o8⟩:=h.cut (k:=8) (by omega) hne
   obtain⟨W2,s16,o16⟩:=h.cut (k:=16) (by omega) hne
   obtain⟨oG,s24,o24⟩:=h.cut (k:=24) (by omega) hne
   obtain⟨eK,s32,o32⟩:=h.cut (k:=32) (by omega) hne
   have g0:=hW h (by omega)
   have g8:=hW o8 (by rw[Aa];omega)
   have g16:=hW o16 (by rw[Aa];omega)
   have g24:=hW o24 (by rw[Aa];omega)
   have l0:=LK h.bd
   have l8:=LK o8.bd
   have l16:=LK o16.bd
   have l24:=LK o24.bd
   have e1:J4 .u64 (J4 .u64 (AA (w8 l)) (AA (w8 (l.drop 8)))) (J4 .u64 (AA (w8 (l.drop 16))) (AA (w8 (l.drop 24))))=AA ((w8 l ||| w8 (l.drop 8)) ||| (w8 (l.drop 16) ||| w8 (l.drop 24))):=by
    rw[Fm l0 l8,Fm l16 l24,Fm (Fl l0 l8) (Fl l16 l24)]
   have e2:KH .u64 (AA ((w8 l ||| w8 (l.drop 8)) ||| (w8 (l.drop 16) ||| w8 (l.drop 24)))) (AA 9259542123273814144)=AA (((w8 l ||| w8 (l.drop 8)) ||| (w8 (l.drop 16) ||| w8 (l.drop 24))) &&& H8):=LC (Fl (Fl l0 l8) (Fl l16 l24)) (by decide)
   by_cases hz:((w8 l ||| w8 (l.drop 8)) ||| (w8 (l.drop 16) ||| w8 (l.drop 24))) &&& H8=0
   ·obtain⟨ha,hb⟩:=Eo hz
    obtain⟨z0,z8⟩:=Eo ha
    obtain⟨z16,z24⟩:=Eo hb
    have v0:=Em 8 l (Ka h.bd (by omega) z0)
    have v8:=Em 8 (l.drop 8) (Ka o8.bd (by rw[Aa];omega) z8)
    have v16:=Em 8 (l.drop 16) (Ka o16.bd (by rw[Aa];omega) z16)
    have v24:=Em 8 (l.drop 24) (Ka o24.bd (by rw[Aa];omega) z24)
    rw[C5]at v8 v16 v24
    obtain⟨y,l',e',o',hv,hl⟩:=vl5 hW R m eK (l.drop 32) (by rw[Aa];omega) o32
    refine⟨y,l',?_,o',hv.trans (v24.trans (v16.trans (v8.trans v0))),AN hl (by rw[Aa];omega)⟩
    have key:∀K4 R5,Lu E D W K4 R5 x Z=R5 eK Z:=by
     intro K4 R5
     unfold Lu
     simp -implicitDefEqProofs only [↓rP,rA,AD,AE,AB,↓sl,d1,↓g0,↓s8,↓g8,↓s16,↓g16,↓s24,↓g24,e1,e2,decide_eq_true hz,↓s32]
    rw[key,e']
   ·refine⟨x,l,?_,h,rfl,AG _⟩
    have key:∀K4 R5,Lu E D W K4 R5 x Z=K4 x Z:=by
     intro K4 R5
     unfold Lu
     simp -implicitDefEqProofs only [↓rP,rA,AD,AE,AB,↓sl,d1,↓g0,↓s8,↓g8,↓s16,↓g16,↓s24,↓g24,e1,e2,decide_eq_false hz]
    rw[key];rfl
  ·have d1:decide (32<l.length)=false:=decide_eq_false h32
   refine⟨x,l,?_,h,rfl,AG _⟩
   have key:∀K4 R5,Lu E D W K4 R5 x Z=K4 x Z:=by
    intro K4 R5
    unfold Lu
    simp -implicitDefEqProofs only [↓rP,rA,AD,AE,AB,↓sl,d1]
   rw[key];rfl
theorem vl3 {Z:H} {x:V} {c:Nat} {r:List Nat} (h:Ox E Z x (c::r)) (ht:OW E Z) (hc:¬c<128) (R:V->H->AH) (b:Bool)
    (hR:∀k y,Ox E Z y (r.drop k)->R y Z=some (.bool (C9 (r.drop k)),Z)) :
    Vh E D W N R x (AA c) Z=some (.bool (C9 (c::r)),Z):=by
  have hc2:c<256:=h.bd c (As ..)
  have hf:=kO c
  rw[Vr hc]
  have sl:∀J:Nat->AH,BG x J=J (r.length+1):=fun J=>h.slen J
  have l0:∀J:V->AH,Bm E Z 0 (GY c 1) J=J (.int .u8 (AA (Gj.getD c 0))):=fun J=>by rw[show GY c 1=c from FC c];exact ht.ld0 hc2 J
  have l1:∀J:List V->AH,DB E Z 1 (GY (Gj.getD c 0 / 16) 2) 2 J=J [.int .u8 (AA (HB.getD (Gj.getD c 0 / 16*2) 0)),.int .u8 (AA (HB.getD (Gj.getD c 0 / 16*2+1) 0))]:=fun J=>ht.ld1 (k:=Gj.getD c 0 / 16) (by omega) J
  have c1:Cf c 256=true:=by rw[CK];exact hc2
  have c2:Cf (Gj.getD c 0 / 16) 16=true:=by rw[CK];omega
  have bd:=fun i=>Li h.bd i
  show So E D W (Vg E D W N R) (RW E D W N R) R x (AA c) Z=_
  have a7:=yF hf
  have s4:=xq (Gj.getD c 0)
  have rdx:∀i,i<r.length->∀J,Am 1 x (AA (i+1)) (fun b o=>Bm E Z b o J)=J (.int .u8 (AA (r.getD i 0))):=fun i hi J=>h.rd (i:=i+1) (by simp;omega) J
  have cutx:∀k,k<r.length+1->∃y,(∀J:V->AH,gK (DA 1 x (some (.int .i64 (AA (k+1)))) none none) J=J y)/\Ox E Z y (r.drop k):=fun k hk=>h.cut (k:=k+1) (by simp;omega) (by simp)
  unfold Pc
  simp only[]
  generalize Gj.getD c 0=f at l0 l1 c2 a7 s4 ⊢
  generalize HB.getD (f / 16*2) 0=lo at l1 ⊢
  generalize HB.getD (f / 16*2+1) 0=hi at l1 ⊢
  have k3:∀K6 K10 R2,So E D W K6 K10 R2 x (AA c) Z=AI (decide (f % 8=2))
      (AI (decide (1<=r.length)&&Tm lo hi (r.getD 0 0)) (gK (DA 1 x (some (.int .i64 (AA 2))) none none) fun u=>R2 u Z) (some (.bool false,Z)))
      (AI (decide (f % 8=3)) (K6 x (AA lo) (AA hi) Z) (AI (decide (f % 8=4)) (K10 x (AA lo) (AA hi) Z) (some (.bool false,Z)))):=by
    intro K6 K10 R2
    unfold So
    by_cases h2:f % 8=2
    · by_cases hl:1<=r.length
      · have r1:∀J,Am 1 x (AA 1) (fun b o=>Bm E Z b o J)=J (.int .u8 (AA (r.getD 0 0))):=rdx 0 (by omega)
        have d2:decide (r.length+1<2)=false:=decide_eq_false (by omega)
        unfold Tm
        cases h5:decide (lo<=r.getD 0 0)<;>cases h6:decide (r.getD 0 0<=hi) <;>
          (have h7:decide (r.getD 0 0<lo)=!decide (lo<=r.getD 0 0):=by
             by_cases h:lo<=r.getD 0 0
             · rw[decide_eq_true h,decide_eq_false (by omega)];rfl
             · rw[decide_eq_false h,decide_eq_true (by omega)];rfl) <;>
          (have h8:decide (hi<r.getD 0 0)=!decide (r.getD 0 0<=hi):=by
             by_cases h:r.getD 0 0<=hi
             · rw[decide_eq_true h,decide_eq_false (by omega)];rfl
             · rw[decide_eq_false h,decide_eq_true (by omega)];rfl) <;>
          rw[h5]at h7<;>rw[h6]at h8 <;>
          simp -implicitDefEqProofs only [↓rP,rA,AD,AE,AB,NH,c1,↓l0,s4,c2,↓l1,a7,decide_eq_true h2,↓sl,d2,↓r1,h7,h8,decide_eq_true hl,h5,h6,Hj,Ra,CQ,Be,Rb,EW]
      · have d2:decide (r.length+1<2)=true:=decide_eq_true (by omega)
        simp -implicitDefEqProofs only [↓rP,rA,AD,AE,AB,NH,c1,↓l0,s4,c2,↓l1,a7,decide_eq_true h2,↓sl,d2,decide_eq_false hl,EW]
    · simp -implicitDefEqProofs only [↓rP,rA,AD,AE,AB,NH,c1,↓l0,s4,c2,↓l1,a7,decide_eq_false h2]
  have ng:∀a b:Nat,decide (a<b)=!decide (b<=a):=fun a b=>by
    by_cases h:b<=a
    · rw[decide_eq_true h,decide_eq_false (by omega)];rfl
    · rw[decide_eq_false h,decide_eq_true (by omega)];rfl
  have k6:Vg E D W N R x (AA lo) (AA hi) Z=AI (decide (2<=r.length)&&(Tm lo hi (r.getD 0 0)&&Tm 128 191 (r.getD 1 0))) (gK (DA 1 x (some (.int .i64 (AA 3))) none none) fun u=>R u Z) (some (.bool false,Z)):=by
    show VJ E D W (VG E D W (VH E D W (VI E D W R))) x (AA lo) (AA hi) Z=_
    unfold VJ VG VH VI
    by_cases hl:2<=r.length
    · have r1:∀J,Am 1 x (AA 1) (fun b o=>Bm E Z b o J)=J (.int .u8 (AA (r.getD 0 0))):=rdx 0 (by omega)
      have r2:∀J,Am 1 x (AA 2) (fun b o=>Bm E Z b o J)=J (.int .u8 (AA (r.getD 1 0))):=rdx 1 (by omega)
      have d2:decide (r.length+1<3)=false:=decide_eq_false (by omega)
      unfold Tm
      cases h5:decide (lo<=r.getD 0 0)<;>cases h6:decide (r.getD 0 0<=hi)<;>cases h7:decide (128<=r.getD 1 0)<;>cases h8:decide (r.getD 1 0<=191) <;>
        simp -implicitDefEqProofs only [↓rP,rA,AD,AE,AB,↓sl,d2,↓r1,↓r2,ng,h5,h6,h7,h8,decide_eq_true hl,Hj,Ra,CQ,Be,Rb,EW]
    · have d2:decide (r.length+1<3)=true:=decide_eq_true (by omega)
      simp -implicitDefEqProofs only [↓rP,rA,AD,AE,AB,↓sl,d2,decide_eq_false hl,EW]
  have k10:RW E D W N R x (AA lo) (AA hi) Z=AI (decide (3<=r.length)&&(Tm lo hi (r.getD 0 0)&&(Tm 128 191 (r.getD 1 0)&&Tm 128 191 (r.getD 2 0)))) (gK (DA 1 x (some (.int .i64 (AA 4))) none none) fun u=>R u Z) (some (.bool false,Z)):=by
    show RO E D W (RL E D W (RM E D W (RN E D W R))) x (AA lo) (AA hi) Z=_
    unfold RO RL RM RN
    by_cases hl:3<=r.length
    · have r1:∀J,Am 1 x (AA 1) (fun b o=>Bm E Z b o J)=J (.int .u8 (AA (r.getD 0 0))):=rdx 0 (by omega)
      have r2:∀J,Am 1 x (AA 2) (fun b o=>Bm E Z b o J)=J (.int .u8 (AA (r.getD 1 0))):=rdx 1 (by omega)
      have r3:∀J,Am 1 x (AA 3) (fun b o=>Bm E Z b o J)=J (.int .u8 (AA (r.getD 2 0))):=rdx 2 (by omega)
      have d2:decide (r.length+1<4)=false:=decide_eq_false (by omega)
      unfold Tm
      cases h5:decide (lo<=r.getD 0 0)<;>cases h6:decide (r.getD 0 0<=hi)<;>cases h7:decide (128<=r.getD 1 0)<;>cases h8:decide (r.getD 1 0<=191)<;>cases h9:decide (128<=r.getD 2 0)<;>cases h10:decide (r.getD 2 0<=191) <;>
        simp -implicitDefEqProofs only [↓rP,rA,AD,AE,AB,↓sl,d2,↓r1,↓r2,↓r3,ng,h5,h6,h7,h8,h9,h10,decide_eq_true hl,Hj,Ra,CQ,Be,Rb,EW]
    · have d2:decide (r.length+1<4)=true:=decide_eq_true (by omega)
      simp -implicitDefEqProofs only [↓rP,rA,AD,AE,AB,↓sl,d2,decide_eq_false hl,EW]
  rw[k3,k6,k10]
  have fin:∀(k:Nat) (q:Bool),(q=true->k<r.length+1)->AI q (gK (DA 1 x (some (.int .i64 (AA (k+1)))) none none) fun u=>R u Z) (some (.bool false,Z))=some (.bool (match (if q=true then some k else none:Option Nat)with | some k=>C9 (r.drop k) | none=>false),Z):=by
    intro k q hq
    cases q with
    | true=>
      obtain⟨y,s,o⟩:=cutx k (hq rfl)
      rw[De,s]
      exact hR k y o
    | false=>rfl
  by_cases h2:f % 8=2
  · rw[decide_eq_true h2,De,if_pos h2]
    exact fin 1 _ (fun h=>by rw[AF,decide_eq_true_eq]at h;omega)
  · rw[decide_eq_false h2,DG,if_neg h2]
    by_cases h3:f % 8=3
    · rw[decide_eq_true h3,De,if_pos h3]
      exact fin 2 _ (fun h=>by rw[AF,decide_eq_true_eq]at h;omega)
    · rw[decide_eq_false h3,DG,if_neg h3]
      by_cases h4:f % 8=4
      · rw[decide_eq_true h4,De,if_pos h4]
        exact fin 3 _ (fun h=>by rw[AF,decide_eq_true_eq]at h;omega)
      · rw[decide_eq_false h4,DG,if_neg h4]
theorem pQ (hW:ZZ E (D 56)) (hN:100000<N) {Z:H} (ht:OW E Z):∀(n:Nat) (x:V) (l:List Nat),l.length<n->Ox E Z x l->KV E D W N n x Z=some (.bool (C9 l),Z)
 | 0,x,l,hn,_=>by omega
 | n+1,x,[],hn,h=>by
  show GH E D W (Vi E D W N) _ _ _ x Z=_
  have sl:∀J:Nat->AH,BG x J=J 0:=fun J=>h.slen J
  have key:∀K1 K3 K4 K5,GH E D W K1 K3 K4 K5 x Z=K1 Z:=by
   intro K1 K3 K4 K5
   unfold GH
   simp -implicitDefEqProofs only [↓rP,rA,AD,AE,AB,↓sl,Nat.lt_irrefl]
  rw[key];rfl
 | n+1,x,c::r,hn,h=>by
  have hn:r.length<n:=by simp at hn;omega
  have hfew:=h.few
  simp only[AM]at hfew
  have sl:∀J:Nat->AH,BG x J=J (r.length+1):=fun J=>h.slen J
  have r0:∀J,Am 1 x (AA 0) (fun b o=>Bm E Z b o J)=J (.int .u8 (AA c)):=fun J=>h.rd (i:=0) (by simp) J
  have ih:∀y l',l'.length<=r.length->Ox E Z y l'->KV E D W N n y Z=some (.bool (C9 l'),Z):=fun y l' hl o=>pQ hW hN ht n y l' (by omega) o
  have d0:decide (0<r.length+1)=true:=decide_eq_true (by omega)
  show GH E D W (Vi E D W N) (Vh E D W N (KV E D W N n)) (TF E D W N (KV E D W N n)) (S9 E D W N (KV E D W N n) N) x Z=_
  by_cases hc:c<128
  ·have d1:decide (c<128)=true:=decide_eq_true hc
   rw[PZ hc]
   obtain⟨y1,s1,o1⟩:=h.cut (k:=1) (by simp) (by simp)
   have o1:Ox E Z y1 r:=o1
   have sl1:=fun J=>o1.slen J
   have i1:=ih y1 r (AG _) o1
   by_cases h8:8<r.length
   ·have d8:decide (8<r.length)=true:=decide_eq_true h8
    have hne:r≠[]:=fun e=>by rw[e]at h8;cases h8
    have g1:=hW o1 (by omega)
    have e1:KH .u64 (AA (w8 r)) (AA 9259542123273814144)=AA (w8 r &&& H8):=LC (LK o1.bd) (by decide)
    by_cases hz:w8 r &&& H8=0
    ·obtain⟨y2,s2,o2⟩:=o1.cut (k:=8) (by omega) hne
     have v1:=Em 8 r (Ka o1.bd (by omega) hz)
     have sl2:=fun J=>o2.slen J
     have i2:=ih y2 (r.drop 8) (by rw[Aa];omega) o2
     have ln:(r.drop 8).length=r.length-8:=Aa
     generalize r.drop 8=q at *
     by_cases h16:16<q.length
     ·have d16:decide (16<q.length)=true:=decide_eq_true h16
      have hne2:q≠[]:=fun e=>by rw[e]at h16;cases h16
      obtain⟨y8,s8,o8⟩:=o2.cut (k:=8) (by omega) hne2
      obtain⟨W2,s16,o16⟩:=o2.cut (k:=16) (by omega) hne2
      have g2:=hW o2 (by omega)
      have g8:=hW o8 (by rw[Aa];omega)
      have e2:J4 .u64 (AA (w8 q)) (AA (w8 (q.drop 8)))=AA (w8 q ||| w8 (q.drop 8)):=Fm (LK o2.bd) (LK o8.bd)
      have e3:KH .u64 (AA (w8 q ||| w8 (q.drop 8))) (AA 9259542123273814144)=AA ((w8 q ||| w8 (q.drop 8)) &&& H8):=LC (Fl (LK o2.bd) (LK o8.bd)) (by decide)
      by_cases hz2:(w8 q ||| w8 (q.drop 8)) &&& H8=0
      ·obtain⟨z0,z8⟩:=Eo hz2
       have v2:=Em 8 q (Ka o2.bd (by omega) z0)
       have v3:=Em 8 (q.drop 8) (Ka o8.bd (by rw[Aa];omega) z8)
       rw[C5]at v3
       obtain⟨y,l',e',o',hv,hl⟩:=vl5 (E:=E) (W:=W) (N:=N) hW (KV E D W N n) N W2 (q.drop 16) (by rw[Aa];omega) o16
       have key:∀K1 K3 K4 K5,GH E D W K1 K3 K4 K5 x Z=K5 W2 Z:=by
        intro K1 K3 K4 K5
        unfold GH
        simp -implicitDefEqProofs only [↓rP,rA,AD,AE,AB,↓sl,d0,↓r0,d1,↓s1,↓sl1,d8,↓g1,e1,decide_eq_true hz,↓s2,↓sl2,d16,↓g2,↓s8,↓g8,e2,e3,decide_eq_true hz2,↓s16]
       rw[key,e',ih y l' (by rw[Aa]at hl;omega) o',hv,v3,v2,v1]
      ·have key:∀K1 K3 K4 K5,GH E D W K1 K3 K4 K5 x Z=K4 y2 Z:=by
        intro K1 K3 K4 K5
        unfold GH
        simp -implicitDefEqProofs only [↓rP,rA,AD,AE,AB,↓sl,d0,↓r0,d1,↓s1,↓sl1,d8,↓g1,e1,decide_eq_true hz,↓s2,↓sl2,d16,↓g2,↓s8,↓g8,e2,e3,decide_eq_false hz2]
       rw[key,<-v1]
       exact i2
     ·have d16:decide (16<q.length)=false:=decide_eq_false h16
      have key:∀K1 K3 K4 K5,GH E D W K1 K3 K4 K5 x Z=K4 y2 Z:=by
       intro K1 K3 K4 K5
       unfold GH
       simp -implicitDefEqProofs only [↓rP,rA,AD,AE,AB,↓sl,d0,↓r0,d1,↓s1,↓sl1,d8,↓g1,e1,decide_eq_true hz,↓s2,↓sl2,d16]
      rw[key,<-v1]
      exact i2
    ·have key:∀K1 K3 K4 K5,GH E D W K1 K3 K4 K5 x Z=K4 y1 Z:=by
      intro K1 K3 K4 K5
      unfold GH
      simp -implicitDefEqProofs only [↓rP,rA,AD,AE,AB,↓sl,d0,↓r0,d1,↓s1,↓sl1,d8,↓g1,e1,decide_eq_false hz]
     rw[key]
     exact i1
   ·have d8:decide (8<r.length)=false:=decide_eq_false h8
    have key:∀K1 K3 K4 K5,GH E D W K1 K3 K4 K5 x Z=K4 y1 Z:=by
     intro K1 K3 K4 K5
     unfold GH
     simp -implicitDefEqProofs only [↓rP,rA,AD,AE,AB,↓sl,d0,↓r0,d1,↓s1,↓sl1,d8]
    rw[key]
    exact i1
  ·have d1:decide (c<128)=false:=decide_eq_false hc
   have key:∀K1 K3 K4 K5,GH E D W K1 K3 K4 K5 x Z=K3 x (AA c) Z:=by
    intro K1 K3 K4 K5
    unfold GH
    simp -implicitDefEqProofs only [↓rP,rA,AD,AE,AB,↓sl,d0,↓r0,d1]
   rw[key]
   exact vl3 h ht hc (KV E D W N n) true (fun k y o=>ih y (r.drop k) (by rw[Aa];omega) o)
theorem xl (hW:ZZ E (D 56)) (hN:100000<N):di E (nw E D W N):=by
 intro Z x l ht hx hcp hb hl
 have nl:(nI l).length=l.length:=by unfold nI;rw[Ea]
 obtain⟨y,hy,oy⟩:∃y,(∀J:V->AH,gK (DA 1 x none (some (.int .i64 (AA l.length))) (some (.int .i64 (AA l.length)))) J=J y)/\Ox E Z y l:=by
  rcases hx with ⟨h0,rfl,_⟩|⟨b,o,c,M,rfl,ha,hle,hm⟩
  ·rw[nl]at h0
   have:l=[]:=Bh h0
   subst this
   exact⟨.nils,fun J=>rfl,⟨.inl ⟨rfl,rfl⟩,hb,hl⟩⟩
  ·rw[nl]at hle hm ⊢
   have hrd:∀(i:Nat),i<l.length->∀J:V->AH,Bm E Z b (o+i) J=J (.int .u8 (AA (l.getD i 0))):=fun i hi J=>by
    refine RC ha ?_
    have h1:(Rj (nI l))[i]? = some (.int .u8 (AA (l.getD i 0))):=by
     unfold Rj nI
     rw[List.map_map,Bk,AY hi,BA,AY hi];rfl
    rw[hm,FC,DN,if_pos hi,CL]at h1
    exact h1
   have e0:(if Ag l.length 0 then o else o+0*1)=o:=by split<;>omega
   have res:Ox E Z (.sl b (if Ag l.length 0 then o else o+0*1) (l.length-0) (.ex (l.length-0))) l:=by
    rw[e0,L5]
    exact⟨.inr ⟨b,o,rfl,hrd⟩,hb,hl⟩
   cases c with
   | ex c=>
    have hcp:l.length<=c:=by
     have h:(nI l).length<=c:=hcp
     rwa [nl]at h
    refine⟨_,fun J=>?_,res⟩
    show gK (if(Ab 0 l.length&&Ab l.length l.length&&(Option.isNone (some (V.int .i64 (AA l.length))) || Ab l.length c))=true then some (V.sl b (if Ag l.length 0 then o else o+0*1) (l.length-0) (.ex (l.length-0)))else none) J=_
    rw[if_pos (by simp[hcp])]
    rfl
   | op e=>
    have he:e=1:=hcp
    subst he
    refine⟨_,fun J=>?_,res⟩
    show gK (if(Ab 0 l.length&&Ab l.length l.length&&Ab l.length l.length)=true then some (V.sl b (if Ag l.length 0 then o else o+0*1) (l.length-0) (.ex (l.length-0)))else none) J=_
    rw[if_pos (by simp)]
    rfl
 have sl:∀J:Nat->AH,BG x J=J l.length:=fun J=>by rw[hx.slen,nl]
 show Sp E D W (KV E D W N N) x Z=_
 have key:∀K,Sp E D W K x Z=K y Z:=by
  intro K
  unfold Sp
  simp -implicitDefEqProofs only [↓rP,rA,AD,AE,AB,↓sl,↓hy]
 rw[key]
 exact pQ hW hN ht N y l (by omega) oy
end
def Ik:Bool->List Nat->Option (List Nat × List Nat)
 | false,[]=>none
 | true,[]=>some ([],[])
 | false,c::r=>match decide (c=34)with
  | true=>Ik true r
  | false=>(Ik false r).map fun p=>(c::p.1,p.2)
 | true,c::r=>match decide (c=34)with
  | true=>(Ik false r).map fun p=>(34::p.1,p.2)
  | false=>some ([],c::r)
def quo (r:List Nat):Option (List Nat × List Nat):=Ik false r
def IU (acc r:List Nat):Sg:=match quo r with
 | some p=>match C9 (acc++p.1)with
  | true=>(7,acc++p.1,p.2)
  | false=>(0,[],p.2)
 | none=>(0,[],[])
def bQ (r:List Nat):Sg:=IU [] (r.drop 1)
theorem V1 (acc:List Nat) (c:Nat) {r:List Nat} (h:¬c=34):IU acc (c::r)=IU (acc++[c]) r:=by
 unfold IU
 have e:quo (c::r)=(quo r).map fun p=>(c::p.1,p.2):=by
  show (match decide (c=34)with | true=>Ik true r | false=>(Ik false r).map fun p:List Nat × List Nat=>(c::p.1,p.2))=_
  rw[decide_eq_false h];rfl
 rw[e]
 cases quo r with
 | none=>rfl
 | some p=>
  show (match C9 (acc++c::p.1)with | true=>_ | false=>_)=(match C9 (acc++[c]++p.1)with | true=>_ | false=>_)
  rw[DD];rfl
theorem Xj (acc:List Nat) {r:List Nat}:IU acc (34::34::r)=IU (acc++[34]) r:=by
 unfold IU
 have e:quo (34::34::r)=(quo r).map fun p=>(34::p.1,p.2):=rfl
 rw[e]
 cases quo r with
 | none=>rfl
 | some p=>
  show (match C9 (acc++34::p.1)with | true=>_ | false=>_)=(match C9 (acc++[34]++p.1)with | true=>_ | false=>_)
  rw[DD];rfl
theorem Xk (acc:List Nat) {r:List Nat} (h:r.headD 0≠34):IU acc (34::r)=match C9 acc with
  | true=>(7,acc,r)
  | false=>(0,[],r):=by
 unfold IU
 have e:quo (34::r)=some ([],r):=by
  cases r with
  | nil=>rfl
  | cons d r=>
   have h:¬d=34:=h
   show (match decide (d=34)with | true=>(Ik false r).map fun p:List Nat × List Nat=>(34::p.1,p.2) | false=>some ([],d::r))=_
   rw[decide_eq_false h]
 rw[e]
 show (match C9 (acc++[])with | true=>(7,acc++[],r) | false=>_)=_
 rw[Eb]
def MW (r:List Nat):Sg:=
 if IX (r.headD 0)=true then Q7 (r.headD 0) (r.drop 1)
 else if(Bj (r.headD 0) || (decide (r.headD 0=45)&&Bj ((r.drop 1).headD 0)))=true then SG r
 else if r.headD 0=39 then Up r
 else if r.headD 0=34 then bQ r
 else Vy r
def UC (E:EB) (ok:List Nat->Prop) (T:List Nat->Sg) (F:List V->H->AH):Prop:=∀{Z:H} {b i:Nat} {s:BS} {r:List Nat},Rd Z b s i r->OW E Z->100<=b->ok r ->
 ∃i' Z',F [.ptr b 0] Z=some (Xe (T r),Z')/\Rd Z' b s i' (T r).2.2/\Fr (fun c=>c=b) Z Z'
theorem XR {E:EB} {Z:H} {v:V} {L:List Nat} (h:By Z v (nI L)) (hb:∀c∈L,c<256) (J:BS->AH):Kd E Z v J=J (Cj L):=by
 have e:Kd E Z v J=srcK E Z 1 v fun _ l=>match FN l with
  | some s=>J (BS.ofList s)
  | none=>none:=by
  rcases h with ⟨_,rfl,_⟩|⟨_,_,_,_,rfl,_⟩<;>rfl
 have hk:∀J:Nat->List V->AH,srcK E Z 1 v J=J (nI L).length (Rj (nI L)):=fun J=>GA.srcK h
 rw[e,hk]
 show (match FN (Rj (nI L))with
  | some s=>J (BS.ofList s)
  | none=>none)=_
 rw[Pa]
 show J (BS.ofList ((nI L).map fun c=>UInt8.ofNat c.toNat))=_
 rw[Q6 hb]
 congr 2
 unfold nI
 rw[List.map_map];rfl
theorem E6.cpO {Z:H} {k:Nat} {v:V} {l:List V} (h:E6 Z 1 k v l):CpO v:=by
 rcases h with (⟨_,rfl,_⟩|⟨_,rfl,_⟩)|⟨_,rfl,_⟩
 ·trivial
 ·rfl
 ·exact AG _
section
variable {E:EB} {D:BB} {W:AJ} {N:Nat}
theorem pS (hP:LD (D 27)) (hV:di E (D 46)) {b:Nat} {s:BS} (hb1:100<=b) {Z0:H} (hb0:b<Z0.next):∀(n:Nat) (r acc:List Nat) (i:Nat) (v:V) (Z:H),r.length<n->acc.length+r.length<=10000->(∀c∈acc,c<256)->Rd Z b s i r->OW E Z->Fr (fun c=>c=b) Z0 Z->E6 Z 1 acc.length v (Rj (nI acc))->(∀c,AS v c->Z0.next<=c) ->
    ∃i' Z',Oo E D W N n b 0 v Z=some (Xe (IU acc r),Z')/\Rd Z' b s i' (IU acc r).2.2/\Fr (fun c=>c=b) Z0 Z'
  | 0,r,acc,i,v,Z,hn,_,_,_,_,_,_,_=>by omega
  | n+1,[],acc,i,v,Z,hn,hl,ha,h,hu,f,hv,hnm=>by
    refine⟨i,Z,?_,h,f⟩
    have a:=h.at_
    have d1:decide (i<s.len)=false:=decide_eq_false (by have:=h.t5.nil;omega)
    show Hu E D W (Vl E D W N) _ b 0 v Z=_
    have key:∀K R,Hu E D W K R b 0 v Z=K Z:=by
      intro K R
      unfold Hu
      simp -implicitDefEqProofs only [↓rP,rA,AD,AE,AB,↓Av a,d1]
    rw[key]
    show some (V.tup [.int .i64 (AA 0),.str (BS.mk 0 0)],Z)=some (V.tup [.int .i64 (AA 0),.str (Cj [])],Z)
    rw[ND]
  | n+1,c::r,acc,i,v,Z,hn,hl,ha,h,hu,f,hv,hnm=>by
    have a:=h.at_
    have hle:=h.t5.le
    simp only[AM]at hn hl
    have d1:decide (i<s.len)=true:=decide_eq_true h.t5.lt
    have p0:D 27 [.ptr b 0,.int .i64 (AA 0)] Z=some (.int .u8 (AA c),Z):=hP 0 h (by decide)
    have a1:CJ .i64 (AA i) (AA 1)=AA (i+1):=Bw (by omega)
    have nl:∀l:List Nat,(nI l).length=l.length:=fun l=>by unfold nI;rw[Ea]
    have push:∀(d j:Nat) (q:List Nat) (Z1:H),d<256->Rd Z1 b s j (d::q)->OW E Z1->Fr (fun c=>c=b) Z0 Z1->E6 Z1 1 acc.length v (Rj (nI acc))->q.length<=r.length->IU acc (c::r)=IU (acc++[d]) q ->
        ∃i' Z',Vk E D W N (Oo E D W N n) b 0 v Z1=some (Xe (IU acc (c::r)),Z')/\Rd Z' b s i' (IU acc (c::r)).2.2/\Fr (fun c=>c=b) Z0 Z':=by
      intro d j q Z1 hd hr1 hu1 f1 hv1 hq hquo
      have hle1:=hr1.t5.le
      have q0:=hP 0 hr1 (by decide)
      have q0:D 27 [.ptr b 0,.int .i64 (AA 0)] Z1=some (.int .u8 (AA d),Z1):=q0
      obtain⟨Z2,e2,f2,a2,n2⟩:=Nx hr1.ht [.int .u8 (AA d)]
      have xs:GA Z2 1 1 (V.sl Z1.next 0 1 (.ex 1)) (Rj (nI [d])) := .inr ⟨_,_,_,_,rfl,a2,AG _,rfl⟩
      obtain⟨u,Z3,g,dd,nm,f3⟩:=Hs (E:=E) (bytes:=1) (hv1.fr f2 hr1.ht (fun _ _ h=>h)) f2.tidy xs (UQ _) (by unfold Cn;simp only[FC,AF,Ai];omega)
      have l0:=f1.le
      have l2:=f2.le
      have F3:Fr (fun c=>c=b) Z0 Z3:=(f1.trans (f2.mono (fun _ _ h=>h.elim)) (fun _ _ h=>h)).trans f3 (fun c hc h=>by have:=hnm c h;omega)
      have hr3:Rd Z3 b s j (d::q):=(hr1.fr f2 (fun h=>h)).fr f3 (fun h=>by have:=hnm b h;omega)
      have dd:E6 Z3 1 (acc++[d]).length u (Rj (nI (acc++[d]))):=by
        have e:nI (acc++[d])=nI acc++nI [d]:=by unfold nI;rw[au]
        rw[e,bN,Aw];exact dd
      obtain⟨Z4,s4,r4,f4⟩:=hr3.adv (k:=1) (by simp)
      have hu4:OW E Z4:=((hu1.fr f2 (fun _ h=>h.elim)).fr f3 (fun c h=>by have:=hnm c h;have:=hu.n;omega)).fr f4 (fun c h=>by omega)
      have b3:=hr3.at_
      have aj:CJ .i64 (AA j) (AA 1)=AA (j+1):=Bw (by omega)
      obtain⟨i',Z',e',r',f'⟩:=pS hP hV hb1 hb0 n q (acc++[d]) (j+1) u Z4 (by omega) (by rw[Aw,AM,A0];omega) (fun x hx=>by
        rcases G1.1 hx with hx|hx
        · exact ha x hx
        · rw[Cc.1 hx];exact hd) r4 hu4 (F3.trans f4 (fun _ _ h=>h)) (dd.fr f4 hr3.ht (fun c hc e=>by
          have:=(nm c hc).elim (hnm c) (fun h=>by omega)
          omega)) (fun c hc=>by
          have:=(nm c hc).elim (hnm c) (fun h=>by omega)
          exact this)
      rw[hquo]
      refine⟨i',Z',?_,r',f'⟩
      show Sr E D W (Ss E D W (Oo E D W N n)) b 0 v Z1=_
      have key:∀R,Sr E D W (Ss E D W R) b 0 v Z1=R b 0 u Z4:=by
        intro R
        unfold Sr Ss
        simp -implicitDefEqProofs only [↓rP,rA,AD,AE,AB,↓q0,↓e2,↓g,↓HQ dd.one,↓Av b3,aj,↓s4]
      rw[key,e']
    show ∃i' Z',Hu E D W (Vl E D W N) (Vk E D W N (Oo E D W N n)) b 0 v Z=_/\_
    by_cases hc:c=34
    · subst hc
      obtain⟨Z1,s1,r1,f1⟩:=h.adv (k:=1) (by simp)
      have r1:Rd Z1 b s (i+1) r:=r1
      have p1:=hP 0 r1 (by decide)
      rw[G8]at p1
      have hu1:=hu.fr f1 (fun c h=>by omega)
      have F1:=f.trans f1 (fun _ _ h=>h)
      have hv1:E6 Z1 1 acc.length v (Rj (nI acc)):=hv.fr f1 h.ht (fun c hc e=>by have:=hnm c hc;omega)
      by_cases hd:r.headD 0=34
      · obtain⟨q,rfl⟩:∃q,r=34::q:=by
          cases r with
          | nil=>cases hd
          | cons d q=>exact⟨q,by rw[show d=34 from hd]⟩
        obtain⟨i',Z',e',r',f'⟩:=push 34 (i+1) q Z1 (by decide) r1 hu1 F1 hv1 (by simp) (Xj acc)
        refine⟨i',Z',?_,r',f'⟩
        have p1:D 27 [.ptr b 0,.int .i64 (AA 0)] Z1=some (.int .u8 (AA 34),Z1):=p1
        have key:∀K R,Hu E D W K R b 0 v Z=R b 0 v Z1:=by
          intro K R
          unfold Hu
          simp -implicitDefEqProofs only [↓rP,rA,AD,AE,AB,↓Av a,d1,↓p0,a1,↓s1,↓p1]
        rw[key,e']
      · have hby:By Z1 v (nI acc):=by
          have:=hv1.src
          unfold By;rw[nl];exact this
        have gv:=hV hu1 hby (E6.cpO hv1) ha (by omega)
        have ts:=fun J=>XR (E:=E) hby ha J
        rw[Xk acc hd]
        cases hval:C9 acc with
        | true=>
          rw[hval]at gv
          refine⟨i+1,Z1,?_,r1,F1⟩
          have key:∀K R,Hu E D W K R b 0 v Z=some (.tup [.int .i64 (AA 7),.str (Cj acc)],Z1):=by
            intro K R
            unfold Hu
            simp -implicitDefEqProofs only [↓rP,rA,AD,AE,AB,↓Av a,d1,↓p0,a1,↓s1,↓p1,decide_eq_false hd,↓gv,↓ts]
          exact key _ _
        | false=>
          rw[hval]at gv
          refine⟨i+1,Z1,?_,r1,F1⟩
          have key:∀K R,Hu E D W K R b 0 v Z=some (.tup [.int .i64 (AA 0),.str (BS.mk 0 0)],Z1):=by
            intro K R
            unfold Hu
            simp -implicitDefEqProofs only [↓rP,rA,AD,AE,AB,↓Av a,d1,↓p0,a1,↓s1,↓p1,decide_eq_false hd,↓gv]
          rw[key]
          show _=some (V.tup [.int .i64 (AA 0),.str (Cj [])],Z1)
          rw[ND]
    · obtain⟨i',Z',e',r',f'⟩:=push c i r Z (h.t5.r.bd c (As ..)) h hu f hv (AG _) (V1 acc c hc)
      refine⟨i',Z',?_,r',f'⟩
      have key:∀K R,Hu E D W K R b 0 v Z=R b 0 v Z:=by
        intro K R
        unfold Hu
        simp -implicitDefEqProofs only [↓rP,rA,AD,AE,AB,↓Av a,d1,↓p0,decide_eq_false hc]
      rw[key,e']
theorem jr (hP:LD (D 27)) (hV:di E (D 46)) (hN:10000<N):UC E (fun r=>∃q,r=34::q) bQ (n8 E D W N):=by
 intro Z b i s r h hu hb hok
 obtain⟨q,rfl⟩:=hok
 have a:=h.at_
 have hle:=h.t5.le
 have hlen:=h.t5.len
 have hfew:=h.t5.few
 simp only[AM]at hlen
 have hlt:=h.lt
 have a1:CJ .i64 (AA i) (AA 1)=AA (i+1):=Bw (by omega)
 obtain⟨Z1,s1,r1,f1⟩:=h.adv (k:=1) (by simp)
 have hu1:=hu.fr f1 (fun c h=>by omega)
 obtain⟨i',Z',e',r',f'⟩:=pS (E:=E) (W:=W) (N:=N) hP hV hb hlt N q [] (i+1) .nils Z1 (by omega) (by simp only[A0];omega) (fun _ h=>by cases h) r1 hu1 f1 (E6.nil Z1 1) (fun _ h=>h.elim)
 refine⟨i',Z',?_,r',f'⟩
 show Su E D W (Oo E D W N N) b 0 Z=_
 have key:∀K,Su E D W K b 0 Z=K b 0 .nils Z1:=by
  intro K
  unfold Su
  simp -implicitDefEqProofs only [↓rP,rA,AD,AE,AB,↓Av a,a1,↓s1]
 rw[key]
 exact e'
theorem pT (hP:LD (D 27)) (hL:Oi (D 29)) (hD:Lw (D 31)) (hNm:M6 (fun r=>∃c l,r=c::l/\IX c=true) (fun r=>Q7 (r.headD 0) (r.drop 1)) (D 30))
    (hNu:M6 (fun r=>(∃c l,r=c::l/\Bj c=true)\/∃l,r=45::l/\Bj (l.headD 0)=true) SG (D 32)) (hH:M6 (fun r=>∃l,r=39::l) Up (D 33)) (hT:UC E (fun r=>∃q,r=34::q) bQ (D 34)) (hS:M6 (fun _=>True) Vy (D 35)) :
    UC E (fun r=>r≠[]) MW (uf E D W N):=by
  intro Z b i s r h hu hb hok
  obtain⟨c,r,rfl⟩:∃c l,r=c::l:=by
    cases r with
    | nil=>exact absurd rfl hok
    | cons c l=>exact⟨c,l,rfl⟩
  have p0:=hP 0 h (by decide)
  have p0:D 27 [.ptr b 0,.int .i64 (AA 0)] Z=some (.int .u8 (AA c),Z):=p0
  have p1:=hP 1 h (by decide)
  rw[show (c::r).getD 1 0=r.headD 0 from G8 r]at p1
  have g1:=hL Z c
  have g2:=hD Z c
  have g3:=hD Z (r.headD 0)
  unfold Xe at *
  show ∃i' Z',Od E D W b 0 Z=_/\_
  unfold MW
  show ∃i' Z',Od E D W b 0 Z=some (Xe (if IX c=true then Q7 c r else if(Bj c || (decide (c=45)&&Bj (r.headD 0)))=true then SG (c::r)else if c=39 then Up (c::r)else if c=34 then bQ (c::r)else Vy (c::r)),Z')/\Rd Z' b s i' (if IX c=true then Q7 c r else if(Bj c || (decide (c=45)&&Bj (r.headD 0)))=true then SG (c::r)else if c=39 then Up (c::r)else if c=34 then bQ (c::r)else Vy (c::r)).2.2/\_
  unfold Xe
  by_cases c1:IX c=true
  · rw[if_pos c1]
    rw[c1]at g1
    obtain⟨i',Z',e',r',f'⟩:=hNm h ⟨c,r,rfl,c1⟩
    have e':D 30 [.ptr b 0] Z=some (.tup [.int .i64 (AA (Q7 c r).1),.str (Cj (Q7 c r).2.1)],Z'):=e'
    refine⟨i',Z',?_,r',f'⟩
    unfold Od
    simp -implicitDefEqProofs only [↓rP,rA,AD,AE,AB,↓p0,↓g1,↓e']
  · rw[if_neg c1]
    rw[L9]at c1
    rw[c1]at g1
    by_cases c2:(Bj c || (decide (c=45)&&Bj (r.headD 0)))=true
    · rw[if_pos c2]
      obtain⟨i',Z',e',r',f'⟩:=hNu h (by
        rw[Bg,AF,decide_eq_true_eq]at c2
        rcases c2 with c2|⟨rfl,c2⟩
        · exact .inl ⟨c,r,rfl,c2⟩
        · exact .inr ⟨r,rfl,c2⟩)
      have e':D 32 [.ptr b 0] Z=some (.tup [.int .i64 (AA (SG (c::r)).1),.str (Cj (SG (c::r)).2.1)],Z'):=e'
      refine⟨i',Z',?_,r',f'⟩
      unfold Od
      cases h1:Bj c<;>cases h2:decide (c=45)<;>cases h3:Bj (r.headD 0)<;>rw[h1,h2,h3]at c2<;>rw[h1]at g2<;>rw[h3]at g3 <;>
        first
        | (cases c2;done)
        | simp -implicitDefEqProofs only [↓rP,rA,AD,AE,AB,↓p0,↓g1,↓g2,h2,↓p1,↓g3,↓e']
    · rw[if_neg c2]
      rw[L9]at c2
      have XN:∀(v:V) (Z':H),(∀K:V->H->AH,True)->AI (decide (c=39)) (D 33 [.ptr b 0] Z) (AI (decide (c=34)) (D 34 [.ptr b 0] Z) (D 35 [.ptr b 0] Z))=some (v,Z')->(∃k w,v = .tup [.int .i64 k,.str w])->Od E D W b 0 Z=some (v,Z'):=by
        rintro v Z' _ hv ⟨k,w,rfl⟩
        unfold Od
        cases h1:Bj c<;>cases h2:decide (c=45)<;>cases h3:Bj (r.headD 0)<;>rw[h1,h2,h3]at c2<;>rw[h1]at g2<;>rw[h3]at g3 <;>
          first
          | (cases c2;done)
          | (cases h4:decide (c=39)<;>cases h5:decide (c=34)<;>rw[h4,h5]at hv<;>simp only[De,DG]at hv <;>
             simp -implicitDefEqProofs only [↓rP,rA,AD,AE,AB,↓p0,↓g1,↓g2,h2,↓p1,↓g3,h4,h5,↓hv])
      by_cases c3:c=39
      · rw[if_pos c3]
        obtain⟨i',Z',e',r',f'⟩:=hH h ⟨r,by rw[c3]⟩
        exact⟨i',Z',XN _ _ (fun _=>trivial) (by rw[decide_eq_true c3,De];exact e') ⟨_,_,rfl⟩,r',f'⟩
      · rw[if_neg c3]
        by_cases c4:c=34
        · rw[if_pos c4]
          obtain⟨i',Z',e',r',f'⟩:=hT h hu hb ⟨r,by rw[c4]⟩
          exact⟨i',Z',XN _ _ (fun _=>trivial) (by rw[decide_eq_false c3,DG,decide_eq_true c4,De];exact e') ⟨_,_,rfl⟩,r',f'⟩
        · rw[if_neg c4]
          obtain⟨i',Z',e',r',f'⟩:=hS h trivial
          exact⟨i',Z',XN _ _ (fun _=>trivial) (by rw[decide_eq_false c3,DG,decide_eq_false c4,DG];exact e') ⟨_,_,rfl⟩,r',f'⟩
end
def Lb (M len:Nat):Nat->List Nat->Except Nat (List A4)
 | 0,_ => .error 0
 | _+1,[] => .ok [(0,[],len)]
 | k+1,c::r=>match (MW (c::r)).1 with
  | 0 => .error (len-(r.length+1))
  | kd+1=>match Lb M len k (PG M (MW (c::r)).2.2)with
   | .ok ts => .ok ((kd+1,(MW (c::r)).2.1,len-(r.length+1))::ts)
   | .error e => .error e
def PQ (M:Nat) (s:BS):Except (Nat × Nat) (List A4):=match decide (8000<s.len)with
 | true => .error (0,5)
 | false=>match Lb M s.len (s.len+1) (PG M s.nats)with
  | .ok ts => .ok ts
  | .error p => .error (p,6)
theorem YB (c:Nat) (r:List Nat):(Q7 c r).2.2=(c::r).drop (LI (c::r)):=by
 unfold Q7
 cases SC ((c::r).take (LI (c::r)))<;>rfl
theorem NC:∀(b:Bool) (r:List Nat) (p:List Nat × List Nat),Ik b r=some p->p.2.length<=r.length
 | false,[],p,h=>by cases h
 | true,[],p,h=>by cases h;exact AG _
 | false,c::r,p,h=>by
  have h:(match decide (c=34)with | true=>Ik true r | false=>(Ik false r).map fun p:List Nat × List Nat=>(c::p.1,p.2))=some p:=h
  cases hd:decide (c=34)with
  | true=>rw[hd]at h;exact HE (NC true r p h)
  | false=>
   rw[hd]at h
   cases hq:Ik false r with
   | none=>rw[hq]at h;cases h
   | some q=>
    rw[hq]at h
    cases h
    exact HE (NC false r q hq)
 | true,c::r,p,h=>by
  have h:(match decide (c=34)with | true=>(Ik false r).map fun p:List Nat × List Nat=>(34::p.1,p.2) | false=>some ([],c::r))=some p:=h
  cases hd:decide (c=34)with
  | false=>rw[hd]at h;cases h;exact AG _
  | true=>
   rw[hd]at h
   cases hq:Ik false r with
   | none=>rw[hq]at h;cases h
   | some q=>
    rw[hq]at h
    cases h
    exact HE (NC false r q hq)
theorem bo (r:List Nat):(IU [] r).2.2.length<=r.length:=by
 unfold IU
 cases hq:quo r with
 | none=>exact CD _
 | some p=>
  have:=NC false r p hq
  show (match C9 ([]++p.1)with | true=>(7,[]++p.1,p.2) | false=>(0,[],p.2):Sg).2.2.length<=_
  cases C9 ([]++p.1)<;>exact this
theorem XU {c:Nat} {r:List Nat} (h:(MW (c::r)).1≠0):(MW (c::r)).2.2.length<(c::r).length:=by
 unfold MW at h ⊢
 show (if IX c=true then Q7 c r else if(Bj c || (decide (c=45)&&Bj (r.headD 0)))=true then SG (c::r)else if c=39 then Up (c::r)else if c=34 then bQ (c::r)else Vy (c::r)).2.2.length<_
 have h:(if IX c=true then Q7 c r else if(Bj c || (decide (c=45)&&Bj (r.headD 0)))=true then SG (c::r)else if c=39 then Up (c::r)else if c=34 then bQ (c::r)else Vy (c::r)).1≠0:=h
 by_cases c1:IX c=true
 ·rw[if_pos c1,YB,Aa]
  have h1:YD c r=true:=by unfold YD;rw[c1];rfl
  have:1<=LI (c::r):=by unfold LI;rw[h1];exact eI _
  simp only[AM];omega
 ·rw[if_neg c1]at h ⊢
  by_cases c2:(Bj c || (decide (c=45)&&Bj (r.headD 0)))=true
  ·rw[if_pos c2]
   have key:∀q:List Nat,(if Jc (decide (c=45)) (q.take (B0 Bj q)) ((q.drop (B0 Bj q)).headD 0)=true then((3,EC (decide (c=45)) (q.take (B0 Bj q)),q.drop (B0 Bj q)):Sg)else(0,[],q.drop (B0 Bj q))).2.2=q.drop (B0 Bj q):=fun q=>by split<;>rfl
   have e:(SG (c::r)).2.2=(if decide (c=45)=true then r else c::r).drop (B0 Bj (if decide (c=45)=true then r else c::r)):=key _
   rw[e,Aa]
   by_cases h45:c=45
   ·rw[decide_eq_true h45,if_pos rfl]
    simp only[AM];omega
   ·rw[decide_eq_false h45,if_neg (by decide)]
    rw[decide_eq_false h45,EW,JK]at c2
    rw[FX,c2]
    show (c::r).length-(B0 Bj r+1)<_
    simp only[AM];omega
  ·rw[if_neg c2]at h ⊢
   by_cases c3:c=39
   ·rw[if_pos c3]at h ⊢
    have e:(Up (c::r)).2.2.length<=r.length:=by
     unfold Up
     simp only[bE,EV]
     split
     ·simp only[Aa];omega
     ·simp only[Aa];omega
    simp only[AM];omega
   ·rw[if_neg c3]at h ⊢
    by_cases c4:c=34
    ·rw[if_pos c4]at h ⊢
     have:=bo r
     show (IU [] r).2.2.length<_
     simp only[AM];omega
    ·rw[if_neg c4]at h ⊢
     unfold Vy at h ⊢
     cases hs:MG D9 (c::r)with
     | zero=>rw[hs]at h;exact absurd rfl h
     | succ n=>
      simp only[Aa,AM];omega
inductive Wi (len:Nat):List A4->Prop
 | fin:Wi len [(0,[],len)]
 | cons {t:A4} {ts:List A4}:t.1≠0->Wi len ts->Wi len (t::ts)
theorem Uk {M len:Nat}:∀(k:Nat) (r:List Nat) (ts:List A4),Lb M len k r = .ok ts->Wi len ts/\ts.length<=k
 | 0,r,ts,h=>by cases h
 | k+1,[],ts,h=>by cases h;exact⟨.fin,by simp⟩
 | k+1,c::r,ts,h=>by
  unfold Lb at h
  cases hk:(MW (c::r)).1 with
  | zero=>rw[hk]at h;cases h
  | succ kd=>
   rw[hk]at h
   cases hl:Lb M len k (PG M (MW (c::r)).2.2)with
   | error e=>simp only[hl]at h;cases h
   | ok ts'=>
    simp only[hl]at h
    cases h
    obtain⟨h1,h2⟩:=Uk k _ ts' hl
    exact⟨.cons (Nat.succ_ne_zero _) h1,by simp only[AM];omega⟩
def Zd (E:EB) (M:Nat) (F:List V->H->AH):Prop:=∀(Z:H) (s:BS),Ci Z->OW E Z ->
 match PQ M s with
 | .ok ts=>∃v Z',F [.str s] Z=some (.tup [v,.int .i64 (AA 0),.int .i64 (AA 0)],Z')/\E6 Z' 3 ts.length v (EN ts)/\(∀b,AS v b->Z.next<=b)/\Fr BQ Z Z'
 | .error e=>∃Z',F [.str s] Z=some (.tup [.nils,.int .i64 (AA e.1),.int .i64 (AA e.2)],Z')/\Fr BQ Z Z'
section
variable {E:EB} {D:BB} {W:AJ} {N:Nat}
theorem qA (hK:dm N (D 13)) (hT:UC E (fun r=>r≠[]) MW (D 14)) {b:Nat} {s:BS} (hs:s.len<=8000) {Z0:H} (h0:100<=Z0.next) (hb:Z0.next<=b):∀(k:Nat) (r:List Nat),r.length<k->∀(n i:Nat) (acc:List A4) (v:V) (Z:H),r.length<n->acc.length+r.length<=8500->Rd Z b s i r->OW E Z->Fr BQ Z0 Z->E6 Z 3 acc.length v (EN acc)->(∀c,AS v c->Z0.next<=c/\c≠b) ->
  match Lb N s.len k r with
  | .ok ts=>∃u Z',Zo E D W N n s b 0 v Z=some (.tup [u,.int .i64 (AA 0),.int .i64 (AA 0)],Z')/\E6 Z' 3 (acc++ts).length u (EN (acc++ts))/\(∀c,AS u c->Z0.next<=c)/\Fr BQ Z0 Z'
  | .error p=>∃Z',Zo E D W N n s b 0 v Z=some (.tup [.nils,.int .i64 (AA p),.int .i64 (AA 6)],Z')/\Fr BQ Z0 Z':=by
 have grow:∀k,k<=9001->Cn k 32=true:=fun k hk=>by unfold Cn;simp only[AF,Ai];omega
 have push:∀(t:A4) (acc:List A4) (v:V) (Z:H),acc.length+1<=9001->Fr BQ Z0 Z->b<Z.next->E6 Z 3 acc.length v (EN acc)->(∀c,AS v c->Z0.next<=c/\c≠b) ->
   ∃u Z1 Z2,CO Z (.cells [.int .i64 (AA t.1),.str (Cj t.2.1),.int .i64 (AA t.2.2)])=Z1/\(∀J:V->H->AH,Ix E 3 32 v (.sl Z.next 0 1 (.ex 1)) Z1 J=J u Z2)/\E6 Z2 3 (acc++[t]).length u (EN (acc++[t]))/\(∀c,AS u c->Z0.next<=c/\c≠b)/\Fr BQ Z0 Z2/\Fr (fun c=>c≠b/\100<=c) Z Z2:=by
  intro t acc v Z ha f hlt hv hn
  obtain⟨Z1,e1,f1,a1,n1⟩:=Nx f.tidy [.int .i64 (AA t.1),.str (Cj t.2.1),.int .i64 (AA t.2.2)]
  have xs:GA Z1 3 1 (V.sl Z.next 0 1 (.ex 1)) [.int .i64 (AA t.1),.str (Cj t.2.1),.int .i64 (AA t.2.2)] := .inr ⟨_,_,_,_,rfl,a1,AG _,rfl⟩
  obtain⟨u,Z2,g,d,nm,f2⟩:=Hs (E:=E) (bytes:=32) (hv.fr f1 f.tidy (fun _ _ h=>h)) f1.tidy xs rfl (grow _ ha)
  have l1:=f1.le
  have l0:=f.le
  refine⟨u,Z1,Z2,e1,g,?_,fun c hc=>(nm c hc).elim (hn c) (fun h=>⟨by omega,by omega⟩),(f.trans f1 (fun _ _ h=>h)).trans f2 fun c hc h=>by have:=(hn c h).1;omega,(f1.mono (fun _ _ h=>h.elim):Fr (fun c=>c≠b/\100<=c) Z Z1).trans f2 fun c hc h=>by have:=hn c h;exact⟨this.2,by omega⟩⟩
  rw[Rk,Aw];exact d
 intro k
 induction k with
 | zero=>intro r h;omega
 | succ k ih=>
  intro r hk n i acc v Z hn ha h hu f hv hnm
  obtain⟨n,rfl⟩:∃j,n=j+1:=⟨n-1,by omega⟩
  have a:=h.at_
  cases r with
  | nil=>
   have hi:=h.t5.nil
   obtain⟨u,Z1,Z2,e1,g,d,nm,f2,_⟩:=push (0,[],s.len) acc v Z (by omega) f h.lt hv hnm
   show ∃u Z',_
   refine⟨u,Z2,?_,d,fun c hc=>(nm c hc).1,f2⟩
   have e1':CO Z (.cells [.int .i64 (AA 0),.str (BS.mk 0 0),.int .i64 (AA s.len)])=Z1:=by rw[<-ND];exact e1
   have d1:decide (i<s.len)=false:=decide_eq_false (by omega)
   show PU E D W (eF E D W N) _ s b 0 v Z=_
   have key:∀K R,PU E D W K R s b 0 v Z=K s v Z:=by
    intro K R
    unfold PU
    simp -implicitDefEqProofs only [↓rP,rA,AD,AE,AB,↓Av a,d1]
   rw[key]
   show kf E D W s v Z=_
   unfold kf
   simp -implicitDefEqProofs only [↓rP,rA,AD,AE,AB,↓e1',↓g,↓HQ d.one]
  | cons c r=>
   have hlen:=h.t5.len
   simp only[AM]at hk hn ha hlen
   have d1:decide (i<s.len)=true:=decide_eq_true h.t5.lt
   have hbn:100<=b:=by omega
   have hlt:=h.lt
   obtain⟨i1,Z1,e1,r1,f1⟩:=hT h hu hbn (by simp)
   have eat:s.len-(r.length+1)=i:=by omega
   have F1:=f.trans f1 (fun c hc e=>by omega)
   have hu1:=hu.fr f1 (fun c e=>by omega)
   have hlt2:=@XU c r
   unfold Lb
   rw[eat]
   cases hkd:(MW (c::r)).1 with
   | zero=>
    show ∃Z',_
    refine⟨Z1,?_,F1⟩
    have e1:D 14 [.ptr b 0] Z=some (.tup [.int .i64 (AA (MW (c::r)).1),.str (Cj (MW (c::r)).2.1)],Z1):=e1
    rw[hkd]at e1
    show PU E D W (eF E D W N) _ s b 0 v Z=_
    have key:∀K R,PU E D W K R s b 0 v Z=some (.tup [.nils,.int .i64 (AA i),.int .i64 (AA 6)],Z1):=by
     intro K R
     unfold PU
     simp -implicitDefEqProofs only [↓rP,rA,AD,AE,AB,↓Av a,d1,↓e1]
    exact key _ _
   | succ kd=>
    have e1:D 14 [.ptr b 0] Z=some (.tup [.int .i64 (AA (MW (c::r)).1),.str (Cj (MW (c::r)).2.1)],Z1):=e1
    rw[hkd]at e1
    have hlt2:=hlt2 (by rw[hkd];exact Nat.succ_ne_zero _)
    simp only[AM]at hlt2
    generalize hq:(MW (c::r)).2.2=q at r1 hlt2
    generalize hw:(MW (c::r)).2.1=w at e1
    have hv1:E6 Z1 3 acc.length v (EN acc):=hv.fr f1 h.ht (fun c hc e=>(hnm c hc).2 e)
    obtain⟨u,Z2,Z3,e2,g,d,nm,f3,f13⟩:=push (kd+1,w,i) acc v Z1 (by omega) F1 (Cz hlt f1.le) hv1 hnm
    have r3:Rd Z3 b s i1 q:=r1.fr f13 (fun e=>e.1 rfl)
    have hu3:=hu1.fr f13 (fun c e=>e.2)
    obtain⟨i4,Z4,g4,r4,f4⟩:=hK r3
    have F4:=f3.trans f4 (fun c hc e=>by omega)
    have hu4:=hu3.fr f4 (fun c e=>by omega)
    have hwl:=MD N q
    have IH:=ih (PG N q) (by omega) n i4 (acc++[(kd+1,w,i)]) u Z4 (by omega) (by rw[Aw,AM,A0];omega) r4 hu4 F4 (d.fr f4 f3.tidy (fun c hc e=>(nm c hc).2 e)) nm
    have key:∀K R,PU E D W K R s b 0 v Z=R s b 0 u Z4:=by
     intro K R
     have e2':CO Z1 (.cells [.int .i64 (AA (kd+1)),.str (Cj w),.int .i64 (AA i)])=Z2:=e2
     unfold PU
     simp -implicitDefEqProofs only [↓rP,rA,AD,AE,AB,↓Av a,d1,↓e1,decide_eq_false (Nat.succ_ne_zero kd),↓e2',↓g,↓HQ d.one,↓g4]
    simp only[]
    cases hl:Lb N s.len k (PG N q)with
    | error p=>
     rw[hl]at IH
     obtain⟨Z',e',f'⟩:=IH
     exact⟨Z',(key _ _).trans e',f'⟩
    | ok ts=>
     rw[hl]at IH
     obtain⟨u',Z',e',d',nm',f'⟩:=IH
     rw[DD]at d'
     exact⟨u',Z',(key _ _).trans e',d',nm',f'⟩
theorem qB (hK:dm N (D 13)) (hT:UC E (fun r=>r≠[]) MW (D 14)) (hN:10000<N):Zd E N (F7 E D W N):=by
 intro Z s ht hu
 unfold PQ
 cases h8:decide (8000<s.len)with
 | true=>
  show ∃Z',_
  refine⟨Z,?_,Fr.refl ht⟩
  show T9 E D W (Zo E D W N N) s Z=_
  have key:∀K,T9 E D W K s Z=some (.tup [.nils,.int .i64 (AA 0),.int .i64 (AA 5)],Z):=by
   intro K
   unfold T9
   simp -implicitDefEqProofs only [↓rP,rA,AD,AE,AB,h8]
  exact key _
 | false=>
  have hs:s.len<=8000:=by have:=of_decide_eq_false h8;omega
  obtain⟨Z1,e1,f1,a1,n1⟩:=Nx ht [.str s,.int .i64 (AA 0)]
  have rd:Rd Z1 Z.next s 0 s.nats:=⟨a1,⟨On.start s,by omega⟩,f1.tidy⟩
  obtain⟨i2,Z2,g2,r2,f2⟩:=hK rd
  have hn:=hu.n
  have hu2:OW E Z2:=(hu.fr f1 (fun _ h=>h.elim)).fr f2 (fun c e=>by omega)
  have F2:=f1.trans f2 (fun c hc e=>by omega)
  have wl:=MD N s.nats
  rw[BS.length_nats]at wl
  have hL:=qA (E:=E) (W:=W) hK hT hs hn (AG _) (s.len+1) (PG N s.nats) (by omega) N i2 [] .nils Z2 (by omega) (by simp only[A0];omega) r2 hu2 F2 (E6.nil Z2 3) (fun _ h=>h.elim)
  have key:∀K,T9 E D W K s Z=K s Z.next 0 .nils Z2:=by
   intro K
   unfold T9 PO
   simp -implicitDefEqProofs only [↓rP,rA,AD,AE,AB,h8,↓e1,↓g2]
  simp only[]
  cases hl:Lb N s.len (s.len+1) (PG N s.nats)with
  | error p=>
   rw[hl]at hL
   obtain⟨Z',e',f'⟩:=hL
   exact⟨Z',(key _).trans e',f'⟩
  | ok ts=>
   rw[hl]at hL
   obtain⟨u',Z',e',d',nm',f'⟩:=hL
   exact⟨u',Z',(key _).trans e',d',nm',f'⟩
end
abbrev Er:=Nat × Nat
def FH (er:Er) (at_ e:Nat):Er:=if er.2=0 then(at_,e)else er
def Ca (t:A4):List V:=[.int .i64 (AA t.1),.str (Cj t.2.1),.int .i64 (AA t.2.2)]
def CF:List A4->A4
 | t::_=>t
 | []=>(0,[],0)
def JE:List A4->List A4
 | _::t2::l=>t2::l
 | l=>l
def MY (s:BS) (l:List A4):Bool:=(decide ((CF l).1=5) || decide ((CF l).1=6))&&(Cj (CF l).2.1).beq s
def CE (s:BS) (l:List A4):Bool × List A4:=match MY s l with
 | true=>(true,JE l)
 | false=>(false,l)
def Aj:List BS->List A4->Er->Bool × List A4 × Er
 | [],l,er=>(true,l,er)
 | s::ss,l,er=>match MY s l with
  | true=>Aj ss (JE l) er
  | false=>(false,l,FH er (CF l).2.2 7)
def IL (k:Nat) (l:List A4) (er:Er):Bool × List A4 × Er:=match decide ((CF l).1=k)with
 | true=>(true,JE l,er)
 | false=>(false,l,FH er (CF l).2.2 7)
def j7 (w:List Nat):Int:=match w with
 | []=>0
 | c::ds=>match decide (c=45)with
  | true=>-((EL 0 ds:Nat):Int)
  | false=>((EL 0 (c::ds):Nat):Int)
structure Rp where
 nm:BS
 tg:Int
 nv:V
 tv:V
 dv:V
 er:Er
def Pq (lv:V) (a:Nat) (R:Rp):List V:=[lv,.int .i64 (AA a),.str R.nm,.int .i64 R.tg,R.nv,R.tv,R.dv,.int .i64 (AA R.er.1),.int .i64 (AA R.er.2)]
structure TsX (ts:List A4):Prop where
 few:ts.length<=9000
 fin:∃p e,ts=p++[e]/\e.1=0/\∀t∈p,t.1≠0
 nums:∀t∈ts,t.1=3->∃m ds,t.2.1=EC m ds/\(∀d∈ds,Bj d=true)/\ds≠[]/\EL 0 ds<=M2 m
 at_:∀t∈ts,t.2.2<=10000
 oct:∀t∈ts,t.2.1.length<=10000/\∀c∈t.2.1,c<256
 hexs:∀t∈ts,t.1=4->∀c∈t.2.1,DK c=true
structure Ps (Z:H) (pb:Nat) (lv:V) (ts l:List A4) (R:Rp):Prop where
 ex:∃a,DZ Z pb (Pq lv a R)/\ts.drop a=l
 src:GA Z 3 ts.length lv (EN ts)
 ne:l≠[]
 nx:∀b,AS lv b->b≠pb
 ok:TsX ts
 ht:Ci Z
def Rp.e (R:Rp) (er:Er):Rp:=⟨R.nm,R.tg,R.nv,R.tv,R.dv,er⟩
section
variable {Z Z':H} {pb:Nat} {lv:V} {ts l:List A4} {R:Rp} {t:A4}
theorem Ps.fr {S:Nat->Prop} (h:Ps Z pb lv ts l R) (f:Fr S Z Z') (h1:¬S pb) (h2:∀b,AS lv b->¬S b):Ps Z' pb lv ts l R:=by
 obtain⟨a,ha,hl⟩:=h.ex
 exact⟨⟨a,f.at_ ha h.ht h1,hl⟩,h.src.fr f h.ht h2,h.ne,h.nx,h.ok,f.tidy⟩
theorem Ps.fr0 (h:Ps Z pb lv ts l R) (f:Fr BQ Z Z'):Ps Z' pb lv ts l R:=h.fr f (fun h=>h) (fun _ _ h=>h)
theorem Ps.lt (h:Ps Z pb lv ts l R):pb<Z.next:=by
 obtain⟨a,ha,_⟩:=h.ex
 exact ha.lt h.ht
theorem Ps.hd (h:Ps Z pb lv ts l R):∃t l1,l=t::l1:=by
 cases l with
 | nil=>exact absurd rfl h.ne
 | cons t l1=>exact⟨t,l1,rfl⟩
theorem Ps.mem (h:Ps Z pb lv ts l R):∀t∈l,t∈ts:=by
 obtain⟨a,_,hl⟩:=h.ex
 intro t ht
 rw[<-hl]at ht
 exact Bf ht
theorem Ps.few (h:Ps Z pb lv ts l R):l.length<=9000:=by
 obtain⟨a,_,hl⟩:=h.ex
 have:=h.ok.few
 rw[<-hl,Aa];omega
theorem Uq (h:Ps Z pb lv ts l R):CF l∈ts:=by
 obtain⟨t,l1,rfl⟩:=h.hd
 exact h.mem t (As ..)
theorem Ps.end_iff (h:Ps Z pb lv ts (t::l) R):t.1=0↔l=[]:=by
 obtain⟨a,_,hl⟩:=h.ex
 obtain⟨p,e,rfl,he,hp⟩:=h.ok.fin
 have hlen:=congrArg Ij hl
 simp only[Aa,Aw,AM,A0]at hlen
 constructor
 ·intro h0
  by_cases hap:a<p.length
  ·have h1:(p++[e]).drop a=p.drop a++[e]:=List.drop_append_of_le_length (by omega)
   rw[h1,MA hap]at hl
   have h2:=(List.cons.inj hl).1
   exact absurd h0 (h2 ▸ hp _ (UK hap))
  ·have:l.length=0:=by omega
   exact Bh this
 ·rintro rfl
  simp only[A0]at hlen
  have ha:a=p.length:=by omega
  rw[ha,List.drop_left]at hl
  have:=(List.cons.inj hl).1
  rw[<-this];exact he
theorem Ps.adv (h:Ps Z pb lv ts (t::l) R) {a:Nat} (ha:DZ Z pb (Pq lv a R)) (hl:ts.drop a=t::l) (h0:t.1≠0) :
  ∃Z',(∀J:H->AH,Dk 1 pb 1 (.int .i64 (AA (a+1))) Z J=J Z')/\Ps Z' pb lv ts (JE (t::l)) R/\Fr (fun k=>k=pb) Z Z':=by
 obtain⟨t2,l,rfl⟩:∃t2 l2,l=t2::l2:=by
  cases l with
  | nil=>exact absurd (h.end_iff.2 rfl) h0
  | cons t2 l=>exact⟨t2,l,rfl⟩
 obtain⟨Z',e,f,a'⟩:=fJ h.ht ha (Pq lv (a+1) R)
 refine⟨Z',fun J=>?_,⟨⟨a+1,a',?_⟩,h.src.fr f h.ht fun b hb e=>h.nx b hb e,by simp[JE],h.nx,h.ok,f.tidy⟩,f⟩
 ·rw[JR ha rfl]
  show J (Ke Z pb (.cells (Pq lv (a+1) R)))=_
  rw[e]
 ·rw[<-C5,hl];rfl
end
theorem UT:∀(ts:List A4) (i:Nat) (t:A4),ts[i]? = some t->((EN ts).drop (i*3)).take 3=Ca t
 | [],i,t,h=>by simp at h
 | u::ts,0,t,h=>by simp at h;subst h;rfl
 | u::ts,i+1,t,h=>by
  have:ts[i]? = some t:=by simpa using h
  show ((Ca u++EN ts).drop ((i+1)*3)).take 3=_
  rw[show (i+1)*3=3+i*3 by omega,<-C5,show (Ca u++EN ts).drop 3=EN ts from rfl]
  exact UT ts i t this
theorem XT {E:EB} {Z:H} {lv:V} {ts l:List A4} {t:A4} {a:Nat} (h:GA Z 3 ts.length lv (EN ts)) (hl:ts.drop a=t::l) (J:List V->AH):Am 3 lv (AA a) (fun b o=>DB E Z b o 3 J)=J (Ca t):=by
 have hlt:a<ts.length:=by
  have:=congrArg Ij hl
  simp only[Aa,AM]at this;omega
 have hg:ts[a]? = some t:=by
  have:=congrArg (fun x:List A4=>x[0]?) hl
  simpa using this
 rcases h with ⟨h0,_,_⟩|⟨b,o,c,L,rfl,ha,hle,hm⟩
 ·omega
 ·rw[Dy hlt]
  show DB E Z b (o+a*3) 3 J=_
  rw[Ho ha,NA (by omega)]
  have:=UT ts a t hg
  rw[hm,nM,List.take_take,aq (by omega),C5]at this
  rw[this]
def Fs (F:List V->H->AH):Prop:=∀{Z:H} {pb:Nat} {lv:V} {ts l:List A4} {R:Rp},Ps Z pb lv ts l R->F [.ptr pb 0] Z=some (.agg (Ca (CF l)),Z)
def Iy (F:List V->H->AH):Prop:=∀{Z:H} {pb:Nat} {lv:V} {ts l:List A4} {R:Rp},Ps Z pb lv ts l R->∃Z',F [.ptr pb 0] Z=some (.agg (Ca (CF l)),Z')/\Ps Z' pb lv ts (JE l) R/\Fr (fun k=>k=pb) Z Z'
def Of (F:List V->H->AH):Prop:=∀{Z:H} {pb:Nat} {lv:V} {ts l:List A4} {R:Rp} (s:BS),Ps Z pb lv ts l R->F [.ptr pb 0,.str s] Z=some (.bool (MY s l),Z)
def Ft (F:List V->H->AH):Prop:=∀{Z:H} {pb:Nat} {lv:V} {ts l:List A4} {R:Rp} (s:BS),Ps Z pb lv ts l R->∃Z',F [.ptr pb 0,.str s] Z=some (.bool (CE s l).1,Z')/\Ps Z' pb lv ts (CE s l).2 R/\Fr (fun k=>k=pb) Z Z'
def GX (F:List V->H->AH):Prop:=∀{Z:H} {pb:Nat} {lv:V} {ts l:List A4} {R:Rp} (p e:Nat),Ps Z pb lv ts l R->∃Z',F [.ptr pb 0,.int .i64 (AA p),.int .i64 (AA e)] Z=some (.bool false,Z')/\Ps Z' pb lv ts l (R.e (FH R.er p e))/\Fr (fun k=>k=pb) Z Z'
def Di (F:List V->H->AH):Prop:=∀{Z:H} {pb:Nat} {lv:V} {ts l:List A4} {R:Rp} {b:Nat} (ss:List BS),Ps Z pb lv ts l R->DZ Z b (ss.map .str)->b≠pb->ss.length<=10 ->
 ∃Z',F [.ptr pb 0,.sl b 0 ss.length (.ex ss.length)] Z=some (.bool (Aj ss l R.er).1,Z')/\Ps Z' pb lv ts (Aj ss l R.er).2.1 (R.e (Aj ss l R.er).2.2)/\Fr (fun k=>k=pb) Z Z'
def Oh (F:List V->H->AH):Prop:=∀{Z:H} {pb:Nat} {lv:V} {ts l:List A4} {R:Rp} (k:Nat),Ps Z pb lv ts l R->(∀b,AS lv b->b<Z.next) ->
 ∃Z',F [.ptr pb 0,.int .i64 (AA k)] Z=some (.tup [.agg (Ca (CF l)),.bool (IL k l R.er).1],Z')/\Ps Z' pb lv ts (IL k l R.er).2.1 (R.e (IL k l R.er).2.2)/\Fr (fun k=>k=pb) Z Z'
section
variable {E:EB} {D:BB} {W:AJ} {N:Nat}
theorem bq:Fs (uc E D W N):=by
 intro Z pb lv ts l R h
 obtain⟨t,l,rfl⟩:=h.hd
 obtain⟨a,ha,hl⟩:=h.ex
 have rd:=fun J=>XT (E:=E) h.src hl J
 unfold Ca at rd
 unfold Pq at ha
 show ZX E D W pb 0 Z=some (.agg (Ca t),Z)
 unfold ZX Ca
 simp -implicitDefEqProofs only [↓rP,rA,AD,AE,AB,↓Av ha,↓rd]
theorem cB:Iy (uV E D W N):=by
 intro Z pb lv ts l R h
 obtain⟨t,l,rfl⟩:=h.hd
 obtain⟨a,ha,hl⟩:=h.ex
 have rd:=fun J=>XT (E:=E) h.src hl J
 have hlen:a+1<=ts.length:=by
  have:=congrArg Ij hl
  simp only[Aa,AM]at this;omega
 have hf:=h.ok.few
 have a1:CJ .i64 (AA a) (AA 1)=AA (a+1):=Bw (by omega)
 show ∃Z',VL E D W (VK E D W) pb 0 Z=some (.agg (Ca t),Z')/\_
 by_cases h0:t.1=0
 ·have:=h.end_iff.1 h0
  subst this
  refine⟨Z,?_,h,Fr.refl h.ht⟩
  unfold Ca at rd ⊢
  unfold Pq at ha
  unfold VL VK
  simp -implicitDefEqProofs only [↓rP,rA,AD,AE,AB,↓Av ha,↓rd,decide_eq_true h0]
 ·obtain⟨Z',g,p,f⟩:=h.adv ha hl h0
  refine⟨Z',?_,p,f⟩
  unfold Ca at rd ⊢
  unfold Pq at ha
  unfold VL VK
  simp -implicitDefEqProofs only [↓rP,rA,AD,AE,AB,↓Av ha,↓rd,decide_eq_false h0,a1,↓g]
theorem Vu (hP:Fs (D 18)):Of (ud E D W N):=by
 intro Z pb lv ts l R s h
 have g:=hP h
 unfold Ca at g
 show ZY E D W (.ptr pb 0) s Z=_
 unfold ZY MY
 generalize CF l=t at g ⊢
 cases h5:decide (t.1=5)<;>cases h6:decide (t.1=6)<;>simp -implicitDefEqProofs only [↓rP,rA,AD,AE,AB,↓g,h5,h6]<;>rfl
theorem qF (hS:Of (D 17)) (hN:Iy (D 37)):Ft (uU E D W N):=by
 intro Z pb lv ts l R s h
 have g:=hS s h
 obtain⟨Z',g2,p2,f2⟩:=hN h
 unfold Ca at g2
 show ∃Z',ZR E D W (.ptr pb 0) s Z=_/\_
 unfold ZR CE
 cases hb:MY s l with
 | true=>
  rw[hb]at g
  refine⟨Z',?_,p2,f2⟩
  simp -implicitDefEqProofs only [↓rP,rS,↓g,↓g2]
 | false=>
  rw[hb]at g
  refine⟨Z,?_,h,Fr.refl h.ht⟩
  simp -implicitDefEqProofs only [↓rP,rS,↓g]
theorem cf:GX (uW E D W N):=by
 intro Z pb lv ts l R p e h
 obtain⟨a,ha,hl⟩:=h.ex
 show ∃Z',VN E D W (VM E D W) pb 0 (AA p) (AA e) Z=_/\_
 unfold FH
 by_cases h0:R.er.2=0
 ·obtain⟨Z1,e1,f1,a1⟩:=fJ h.ht ha [lv,.int .i64 (AA a),.str R.nm,.int .i64 R.tg,R.nv,R.tv,R.dv,.int .i64 (AA p),.int .i64 (AA R.er.2)]
  obtain⟨Z2,e2,f2,a2⟩:=fJ f1.tidy a1 [lv,.int .i64 (AA a),.str R.nm,.int .i64 R.tg,R.nv,R.tv,R.dv,.int .i64 (AA p),.int .i64 (AA e)]
  have f12:=f1.trans f2 (fun _ _ h=>h)
  rw[if_pos h0]
  refine⟨Z2,?_,⟨⟨a,a2,hl⟩,h.src.fr f12 h.ht fun b hb e=>h.nx b hb e,h.ne,h.nx,h.ok,f12.tidy⟩,f12⟩
  have s1:∀J:H->AH,Dk 1 pb 7 (.int .i64 (AA p)) Z J=J Z1:=fun J=>by
   rw[JR ha rfl]
   show J (Ke Z pb (.cells [lv,.int .i64 (AA a),.str R.nm,.int .i64 R.tg,R.nv,R.tv,R.dv,.int .i64 (AA p),.int .i64 (AA R.er.2)]))=_
   rw[e1]
  have s2:∀J:H->AH,Dk 1 pb 8 (.int .i64 (AA e)) Z1 J=J Z2:=fun J=>by
   rw[JR a1 rfl]
   show J (Ke Z1 pb (.cells [lv,.int .i64 (AA a),.str R.nm,.int .i64 R.tg,R.nv,R.tv,R.dv,.int .i64 (AA p),.int .i64 (AA e)]))=_
   rw[e2]
  unfold Pq at ha
  unfold VN VM
  simp -implicitDefEqProofs only [↓rP,rA,AD,AE,AB,↓Av ha,decide_eq_true h0,↓s1,↓s2]
 ·rw[if_neg h0]
  refine⟨Z,?_,h,Fr.refl h.ht⟩
  unfold Pq at ha
  unfold VN VM
  simp -implicitDefEqProofs only [↓rP,rA,AD,AE,AB,↓Av ha,decide_eq_false h0]
theorem UO (hI:Ft (D 38)) (hP:Fs (D 18)) (hF:GX (D 36)) {pb b n0:Nat} {lv:V} {ts:List A4} {all:List BS} (hb:b≠pb) (hal:all.length<=10):∀(ss:List BS) (j n:Nat) (l:List A4) (R:Rp) (Z:H),all.drop j=ss->ss.length<n->Ps Z pb lv ts l R->DZ Z b (all.map .str) ->
  ∃Z',TE E D W N n pb 0 (.sl b 0 all.length (.ex all.length)) (AA all.length) (AA j) Z=some (.bool (Aj ss l R.er).1,Z')/\Ps Z' pb lv ts (Aj ss l R.er).2.1 (R.e (Aj ss l R.er).2.2)/\Fr (fun k=>k=pb) Z Z'
 | [],j,n,l,R,Z,hj,hn,h,ha=>by
  obtain⟨n,rfl⟩:∃k,n=k+1:=⟨n-1,by omega⟩
  have hjl:all.length<=j:=by
   have:=congrArg Ij hj
   simp only[Aa,A0]at this;omega
  refine⟨Z,?_,h,Fr.refl h.ht⟩
  show KT E D W (Vm E D W N) _ pb 0 (.sl b 0 all.length (.ex all.length)) (AA all.length) (AA j) Z=_
  have key:∀K Q,KT E D W K Q pb 0 (.sl b 0 all.length (.ex all.length)) (AA all.length) (AA j) Z=K Z:=by
   intro K Q
   unfold KT
   simp -implicitDefEqProofs only [↓rP,rA,AD,AE,AB,decide_eq_false (show ¬j<all.length by omega)]
  rw[key];rfl
 | s::ss,j,n,l,R,Z,hj,hn,h,ha=>by
  obtain⟨n,rfl⟩:∃k,n=k+1:=⟨n-1,by omega⟩
  have hjl:j<all.length:=by
   have:=congrArg Ij hj
   simp only[Aa,AM]at this;omega
  have hjs:all[j]? = some s:=by
   have:=congrArg (fun x:List BS=>x[0]?) hj
   simpa using this
  have hdr:all.drop (j+1)=ss:=by rw[<-C5,hj];rfl
  have rd:∀J,Am 1 (.sl b 0 all.length (.ex all.length)) (AA j) (fun b o=>Bm E Z b o J)=J (.str s):=fun J=>by
   rw[Dy hjl]
   refine RC ha ?_
   show (all.map V.str)[0+j*1]? = _
   rw[B2,FC,Bk,hjs];rfl
  have aj:CJ .i64 (AA j) (AA 1)=AA (j+1):=Bw (by omega)
  have d1:decide (j<all.length)=true:=decide_eq_true hjl
  obtain⟨Z1,g1,p1,f1⟩:=hI s h
  have ha1:=f1.at_ ha h.ht hb
  show ∃Z',KT E D W (Vm E D W N) (TE E D W N n) pb 0 (.sl b 0 all.length (.ex all.length)) (AA all.length) (AA j) Z=_/\_
  unfold Aj
  unfold CE at g1 p1
  cases hs:MY s l with
  | true=>
   rw[hs]at g1 p1
   obtain⟨Z2,g2,p2,f2⟩:=UO hI hP hF (n0:=n0) hb hal ss (j+1) n (JE l) R Z1 hdr (by simp only[AM]at hn;omega) p1 ha1
   refine⟨Z2,?_,p2,f1.trans f2 (fun _ _ h=>h)⟩
   have key:∀K Q,KT E D W K Q pb 0 (.sl b 0 all.length (.ex all.length)) (AA all.length) (AA j) Z=Q pb 0 (.sl b 0 all.length (.ex all.length)) (AA all.length) (AA (j+1)) Z1:=by
    intro K Q
    unfold KT
    simp -implicitDefEqProofs only [↓rP,rA,AD,AE,AB,d1,↓rd,↓g1,aj]
   rw[key];exact g2
  | false=>
   rw[hs]at g1 p1
   have g2:=hP p1
   unfold Ca at g2
   have p1:Ps Z1 pb lv ts l R:=p1
   obtain⟨Z3,g3,p3,f3⟩:=hF (CF l).2.2 7 p1
   have g2:D 18 [.ptr pb 0] Z1=some (.agg [.int .i64 (AA (CF l).1),.str (Cj (CF l).2.1),.int .i64 (AA (CF l).2.2)],Z1):=g2
   refine⟨Z3,?_,p3,f1.trans f3 (fun _ _ h=>h)⟩
   have key:∀K Q,KT E D W K Q pb 0 (.sl b 0 all.length (.ex all.length)) (AA all.length) (AA j) Z=some (.bool false,Z3):=by
    intro K Q
    unfold KT
    simp -implicitDefEqProofs only [↓rP,rA,AD,AE,AB,d1,↓rd,↓g1,↓g2,↓g3]
   exact key _ _
theorem bI (hI:Ft (D 38)) (hP:Fs (D 18)) (hF:GX (D 36)) (hN:20<N):Di (oC E D W N):=by
 intro Z pb lv ts l R b ss h ha hb hs
 obtain⟨Z',g,p,f⟩:=UO (E:=E) (W:=W) (N:=N) (n0:=0) hI hP hF hb hs ss 0 N l R Z rfl (by omega) h ha
 refine⟨Z',?_,p,f⟩
 show S0 E D W (TE E D W N N) pb 0 (.sl b 0 ss.length (.ex ss.length)) Z=_
 have key:∀K,S0 E D W K pb 0 (.sl b 0 ss.length (.ex ss.length)) Z=K pb 0 (.sl b 0 ss.length (.ex ss.length)) (AA ss.length) (AA 0) Z:=by
  intro K
  unfold S0
  simp -implicitDefEqProofs only [↓rP,rA,AD,AE,AB]
 rw[key];exact g
end
def pR:List V:=[.int .i64 (AA 0),.str ⟨0,0⟩,.int .i64 (AA 0)]
def Ed (l:List A4) (er:Er):Bool × Int × List A4 × Er:=match decide ((CF l).1=3)with
 | true=>(true,j7 (CF l).2.1,JE l,er)
 | false=>(false,0,l,FH er (CF l).2.2 7)
theorem bx {m:Bool} {ds:List Nat} (hd:∀d∈ds,Bj d=true) (h0:ds≠[]):j7 (EC m ds)=if m=true then -((EL 0 ds:Nat):Int)else((EL 0 ds:Nat):Int):=by
 obtain⟨d,l,rfl⟩:∃d l,ds=d::l:=by
  cases ds with
  | nil=>exact absurd rfl h0
  | cons d l=>exact⟨d,l,rfl⟩
 have hdd:=Ll (hd d (As ..))
 cases m with
 | false=>
  show (match decide (d=45)with | true=>_ | false=>_:Int)=_
  rw[decide_eq_false (show ¬d=45 by omega)];rfl
 | true=>rfl
def Jp (F:List V->H->AH):Prop:=∀{Z:H} {pb:Nat} {lv:V} {ts l:List A4} {R:Rp},Ps Z pb lv ts l R ->
 ∃Z',F [.ptr pb 0] Z=some (.tup [.int .i64 (Ed l R.er).2.1,.agg (Ca (CF l)),.bool (Ed l R.er).1],Z')/\Ps Z' pb lv ts (Ed l R.er).2.2.1 (R.e (Ed l R.er).2.2.2)/\Fr (fun k=>k=pb) Z Z'
section
variable {E:EB} {D:BB} {W:AJ} {N:Nat}
theorem cx (t:A4):V.beq (.agg (Ca t)) (.agg (Ca t))=true:=by
 unfold Ca
 exact C8 _ rfl
theorem pn (hP:Fs (D 18)) (hX:Iy (D 37)) (hF:GX (D 36)):Oh (ue E D (A2 E D) N):=by
 intro Z pb lv ts l R k h _
 obtain⟨Z1,e1,f1,a1,n1⟩:=Nx h.ht pR
 have p1:=h.fr0 f1
 have g1:=hP p1
 obtain⟨Z2,e2,f2,a2,n2⟩:=Nx f1.tidy pR
 obtain⟨Z3,e3,f3,a3⟩:=fJ f2.tidy a2 (Ca (CF l))
 have f13:Fr BQ Z1 Z3:=f2.trans f3 (fun b hb e=>by omega)
 have f03:=f1.trans f13 (fun _ _ h=>h)
 have p3:=h.fr0 f03
 have l1:=f1.le
 have l13:=f13.le
 have hpl:=h.lt
 have hlv:∀b,AS lv b->b<Z.next:=fun b hb=>GA.lt h.src h.ht hb
 have a13:DZ Z3 Z.next pR:=f13.at_ a1 f1.tidy (fun h=>h)
 unfold pR at e1 e2
 have s3:∀J:H->AH,Dk 3 Z1.next 0 (.agg (Ca (CF l))) Z2 J=J Z3:=fun J=>by
  rw[JR a2 rfl]
  show J (Ke Z2 Z1.next (.cells (Ca (CF l))))=_
  rw[e3]
 unfold IL
 by_cases hk:(CF l).1=k
 ·rw[decide_eq_true hk]
  obtain⟨Z4,g4,p4,f4⟩:=hX p3
  have a4:=f4.at_ a13 f03.tidy (by omega)
  obtain⟨Z5,e5,f5,a5⟩:=fJ f4.tidy a4 (Ca (CF l))
  have s5:∀J:H->AH,Dk 3 Z.next 0 (.agg (Ca (CF l))) Z4 J=J Z5:=fun J=>by
   rw[JR a4 rfl]
   show J (Ke Z4 Z.next (.cells (Ca (CF l))))=_
   rw[e5]
  have l5:∀J:List V->AH,DB E Z5 Z.next 0 3 J=J (Ca (CF l)):=fun J=>(Ho a5).trans rfl
  refine⟨Z5,?_,p4.fr f5 (by omega) (fun b hb e=>by have:=hlv b hb;omega),((f03.mono (fun _ _ h=>h.elim):Fr (fun k=>k=pb) Z Z3).trans f4 (fun _ _ h=>h)).trans f5 (fun b hb e=>by omega)⟩
  unfold Ca at g1 s3 a3 g4 s5 l5
  show S1 E D (A2 E D) pb 0 (AA k) Z=_
  unfold S1 Ca
  simp -implicitDefEqProofs only [↓rP,rA,AD,AE,AB,↓e1,↓g1,↓e2,↓s3,↓Av a3,decide_eq_true hk,↓g4,↓s5,↓l5]
 ·rw[decide_eq_false hk]
  have fw:Fr BQ Z3 ⟨Z3.next+7,Z3.bl⟩:=(Du (E:=E) (n:=7) (S:=BQ) f03.tidy).fr
  have pw:=p3.fr0 fw
  obtain⟨Z4,g4,p4,f4⟩:=hF (CF l).2.2 7 pw
  have a4:DZ Z4 Z.next pR:=f4.at_ (fw.at_ a13 f03.tidy (fun h=>h)) fw.tidy (by omega)
  obtain⟨Z5,g5,f5,a5⟩:=ID (E:=E) (D:=D) (n:=3) (x := .tmp 4) (y := .tmp 15) (e:=[(15,.agg (Ca (CF l))),(4,.ptr Z.next 0)]) f4.tidy a4 rfl rfl rfl
  have go:He E D Z3 7 0 (fun b=>b=pb\/b=Z.next) Qa TK ⟨[(0,.ptr pb 0),(4,.ptr Z.next 0),(6,.ptr Z1.next 0)],Z3.next+7,[Z3.bl],[],0,[]⟩ _ Z5:=
   Tn (.agg (Ca (CF l))) (Du f03.tidy) rfl (LR (b:=Z1.next) (off:=0) (m:=3) rfl a3 rfl rfl f03.tidy (by omega) (cx _)) fun _ r1=>
   HU (.ptr pb 0) rfl rfl <|
   HU (.ptr Z1.next 2) rfl rfl <|
   Tn (.int .i64 (AA (CF l).2.2)) r1 rfl (G6 (b:=Z1.next) (off:=2) rfl a3 rfl f03.tidy (by omega) (C8 _ rfl)) fun _ r2=>
   SO (.bool false) r2 rfl (by decide) (S':=fun k=>k=pb) f4 (fun _ _ h => .inl h) (fun b e h1 _=>by omega) (Uz (vs:=[.ptr pb 0,.int .i64 (AA (CF l).2.2),.int .i64 (AA 7)]) rfl rfl g4) fun _ _ _ r3=>
   SO .dead r3 rfl (by decide) (S':=fun b=>b=Z.next) f5 (fun _ _ h => .inr h) (fun b e h1 _=>by omega) g5 fun _ _ _ r4=>
   HU (.bool false) rfl rfl <|
   OA r4
  obtain⟨d1,d2⟩:=Ld (ops:=Qa) go
  have a5:DZ Z5 Z.next (Ca (CF l)):=a5
  obtain⟨e',d1,q4,q5⟩:∃e',A2 E D Qa TK [(0,.ptr pb 0),(4,.ptr Z.next 0),(6,.ptr Z1.next 0)] Z3=some (e',Z5)/\Go.Og.look e' 4=some (.ptr Z.next 0)/\Go.Og.look e' 5=some (.bool false):=⟨_,d1,rfl,rfl⟩
  have gd:∀J:Bt->H->AH,Ee (A2 E D Qa TK [(0,.ptr pb 0),(4,.ptr Z.next 0),(6,.ptr Z1.next 0)] Z3) J=J e' Z5:=fun J=>by rw[d1];rfl
  have k4:∀J:V->AH,E0 e' 4 J=J (.ptr Z.next 0):=fun J=>Ez q4 rfl
  have k5:∀J:V->AH,E0 e' 5 J=J (.bool false):=fun J=>Ez q5 rfl
  have l5:∀J:List V->AH,DB E Z5 Z.next 0 3 J=J (Ca (CF l)):=fun J=>(Ho a5).trans rfl
  refine⟨Z5,?_,p4.fr f5 (by omega) (fun b hb e=>by have:=hlv b hb;omega),?_⟩
  ·unfold Ca at g1 s3 a3 l5
   show S1 E D (A2 E D) pb 0 (AA k) Z=_
   unfold S1
   simp -implicitDefEqProofs only [↓rP,rA,AD,AE,AB,↓e1,↓g1,↓e2,↓s3,↓Av a3,decide_eq_false hk]
   refine(gd _).trans ?_
   unfold Ca
   simp -implicitDefEqProofs only [↓rP,rS,↓k4,↓k5,↓l5]
  ·refine(f03.mono (fun _ _ h=>h.elim):Fr (fun k=>k=pb) Z Z3).trans d2 (fun b hb e=>?_)
   rcases e with e|e
   ·exact e
   ·omega
theorem j8 (hO:Oh (D 15)) {te:TypeId} (hI:D 45=Nu te):Jp (uI E D W N):=by
 intro Z pb lv ts l R h
 obtain⟨Z1,g1,p1,f1⟩:=hO 3 h (fun b hb=>GA.lt h.src h.ht hb)
 have hm:=Uq h
 show ∃Z',VA E D W (.ptr pb 0) Z=_/\_
 unfold Ed
 unfold IL at g1 p1
 by_cases hk:(CF l).1=3
 ·rw[decide_eq_true hk]at g1 p1 ⊢
  obtain⟨m,ds,hw,hd,h0,hv⟩:=h.ok.nums _ hm hk
  have hoct:=h.ok.oct _ hm
  have bw:∀c∈EC m ds,c<256:=by rw[<-hw];exact hoct.2
  have pI:D 45 [.str (Cj (CF l).2.1),.int .i64 (AA 10),.int .i64 (AA 64)] Z1=some (.tup [.int .i64 (j7 (CF l).2.1),.nili],Z1):=by
   rw[hI,hw,bx hd h0]
   show (if(Cj (EC m ds)).len<=1000000 then(match Go.Lib.parseIntB 64 (Cj (EC m ds)).toList with
    | .ok v=>some (V.tup [.int .i64 v,.nili],Z1)
    | .range=>some (V.tup [.int .i64 (Go.Lib.intSat 64 (Cj (EC m ds)).toList),.ifc te (.ptr Z1.next 0)],⟨Z1.next+1,Z1.bl⟩)
    | _=>none)else none)=_
   rw[if_pos (by rw[Fo,<-hw];have:=hoct.1;omega),Kn bw,pib hd h0,if_pos hv]
  refine⟨Z1,?_,p1,f1⟩
  unfold Ca at g1 ⊢
  unfold VA
  simp -implicitDefEqProofs only [↓rP,rA,AD,AE,AB,↓g1,↓pI]
 ·rw[decide_eq_false hk]at g1 p1 ⊢
  refine⟨Z1,?_,p1,f1⟩
  unfold Ca at g1 ⊢
  unfold VA
  simp -implicitDefEqProofs only [↓rP,rA,AD,AE,AB,↓g1]
  rfl
end
structure Fw where
 has:Bool
 hasLow:Bool
 hasHigh:Bool
 more:Bool
 low:Int
 high:Int
def qU:Fw:=⟨false,false,false,false,0,0⟩
structure Jq where
 name:List Nat
 num:Int
 has:Bool
structure CT where
 name:List Nat
 type:Nat
 opt:Bool
 has:Bool
 dk:Nat
 dn:Int
 db:List Nat
 group:Nat
structure AL where
 kind:Nat
 name:List Nat
 mHas:Bool
 mNum:Int
 mMode:Nat
 con:Fw
 items:List Jq
 fields:List CT
 root:Nat
 more:Bool
 of_:Nat
def HS:AL:=⟨0,[],false,0,0,qU,[],[],0,false,0⟩
def AL.c (x:AL) (iv fv:V):List V:=[.int .i64 (AA x.kind),.str (Cj x.name),.bool x.mHas,.int .i64 x.mNum,.int .i64 (AA x.mMode),.bool x.con.has,.bool x.con.hasLow,.bool x.con.hasHigh,.bool x.con.more,.int .i64 x.con.low,.int .i64 x.con.high,iv,fv,.int .i64 (AA x.root),.bool x.more,.int .i64 (AA x.of_)]
def AL.cn (x:AL) (c:Fw):AL:=⟨x.kind,x.name,x.mHas,x.mNum,x.mMode,c,x.items,x.fields,x.root,x.more,x.of_⟩
def tyW:List BS:=[BS.mk 7 22026814072246082,BS.mk 4 1280070990,BS.mk 10 488440487847103610377301,BS.mk 7 23157120498421321,BS.mk 5 361940403023,BS.mk 10 322399817400452109389381,BS.mk 8 4990918871747741011,BS.mk 3 5522771,BS.mk 6 76155295057987]
def T1 (t:A4):Bool:=if t.1=1 then true else if t.1=6 then(Cj t.2.1).beq (BS.mk 1 91)else if t.1=5 then tyW.any fun w=>(Cj t.2.1).beq w else false
def Fp (l:List A4) (er:Er):Bool × (Bool × Int × Nat) × List A4 × Er:=match CE (BS.mk 1 91) l with
 | (false,l1)=>(true,(false,0,0),l1,er)
 | (true,l1)=>match Ed l1 er with
  | (false,_,l2,er2)=>(false,(false,0,0),l2,er2)
  | (true,n,l2,er2)=>match Dt n (AA 0) || Dt (AA 268435456) n with
   | true=>(false,(false,0,0),l2,FH er2 (CF l1).2.2 12)
   | false=>match Aj [BS.mk 1 93] l2 er2 with
    | (false,l3,er3)=>(false,(false,0,0),l3,er3)
    | (true,l3,er3)=>match CE (BS.mk 8 6073459554577832005) l3 with
     | (true,l4)=>(true,(true,n,1),l4,er3)
     | (false,l4)=>match CE (BS.mk 8 6073459554577829193) l4 with
      | (true,l5)=>(true,(true,n,2),l5,er3)
      | (false,l5)=>(true,(true,n,0),l5,er3)
def Je (c:Fw) (l:List A4) (er:Er):Bool × Fw × List A4 × Er:=match CE (BS.mk 3 5130573) l with
 | (true,l1)=>(true,c,l1,er)
 | (false,l1)=>match Ed l1 er with
  | (false,_,l2,er2)=>(false,c,l2,er2)
  | (true,n,l2,er2)=>(true,⟨c.has,true,c.hasHigh,c.more,n,c.high⟩,l2,er2)
def Gi (c:Fw) (l:List A4) (er:Er):Bool × Fw × List A4 × Er:=match CE (BS.mk 2 11822) l with
 | (false,l1)=>(true,⟨c.has,c.hasLow,c.hasLow,c.more,c.low,c.low⟩,l1,er)
 | (true,l1)=>match CE (BS.mk 3 5783885) l1 with
  | (true,l2)=>(true,c,l2,er)
  | (false,l2)=>match Ed l2 er with
   | (false,_,l3,er3)=>(false,c,l3,er3)
   | (true,n,l3,er3)=>(true,⟨c.has,c.hasLow,true,c.more,c.low,n⟩,l3,er3)
def IY (c:Fw) (l:List A4) (er:Er):Bool × Fw × List A4 × Er:=match CE (BS.mk 1 44) l with
 | (false,l1)=>(true,c,l1,er)
 | (true,l1)=>match Aj [BS.mk 3 3026478] l1 er with
  | (b,l2,er2)=>(b,⟨c.has,c.hasLow,c.hasHigh,true,c.low,c.high⟩,l2,er2)
def Ce (c:Fw) (l:List A4) (er:Er):Bool × Fw × List A4 × Er:=match Je ⟨true,c.hasLow,c.hasHigh,c.more,c.low,c.high⟩ l er with
 | (false,c1,l1,er1)=>(false,c1,l1,er1)
 | (true,c1,l1,er1)=>match Gi c1 l1 er1 with
  | (false,c2,l2,er2)=>(false,c2,l2,er2)
  | (true,c2,l2,er2)=>IY c2 l2 er2
def Da (c:Fw) (l:List A4) (er:Er):Bool × Fw × List A4 × Er:=match CE (BS.mk 1 40) l with
 | (false,l1)=>(true,c,l1,er)
 | (true,l1)=>match Aj [BS.mk 4 1163544915,BS.mk 1 40] l1 er with
  | (false,l2,er2)=>(false,c,l2,er2)
  | (true,l2,er2)=>match Ce c l2 er2 with
   | (false,c3,l3,er3)=>(false,c3,l3,er3)
   | (true,c3,l3,er3)=>match Aj [BS.mk 1 41,BS.mk 1 41] l3 er3 with
    | (b,l4,er4)=>(b,c3,l4,er4)
theorem MX {Z:H} {b n o:Nat} {l l':List V} {v:V} (ht:Ci Z) (h:DZ Z b l) (hc:(Ag v.cells.length n&&Ab (AU o n) l.length&&BJ v.cells)=true) (hl:F0 l o v.cells=l') :
  ∃Z',(∀J:H->AH,Dk n b o v Z J=J Z')/\DZ Z' b l'/\Fr (fun k=>k=b) Z Z':=by
 obtain⟨Z',e,f,a⟩:=fJ ht h l'
 refine⟨Z',fun J=>?_,a,f⟩
 rw[JR h hc,hl,e]
structure An (pb:Nat) (lv:V) (nb:Nat):Prop where
 p:nb≠pb
 l:∀b,AS lv b->b≠nb
def UF (F:List V->H->AH):Prop:=∀(Z:H) (t:A4),Ci Z->∃Z',F [.agg (Ca t)] Z=some (.bool (T1 t),Z')/\Fr BQ Z Z'
def RP (F:List V->H->AH):Prop:=∀{Z:H} {pb:Nat} {lv:V} {ts l:List A4} {R:Rp},Ps Z pb lv ts l R ->
 ∃Z',F [.ptr pb 0] Z=some (.tup [.agg [.bool (Fp l R.er).2.1.1,.int .i64 (Fp l R.er).2.1.2.1,.int .i64 (AA (Fp l R.er).2.1.2.2)],.bool (Fp l R.er).1],Z')/\Ps Z' pb lv ts (Fp l R.er).2.2.1 (R.e (Fp l R.er).2.2.2)/\Fr (fun k=>k=pb) Z Z'
def RR (F:List V->H->AH):Prop:=∀{Z:H} {pb nb:Nat} {lv iv fv:V} {ts l:List A4} {R:Rp} {nd:AL},Ps Z pb lv ts l R->An pb lv nb->DZ Z nb (nd.c iv fv) ->
 ∃Z',F [.ptr pb 0,.ptr nb 5] Z=some (.bool (Ce nd.con l R.er).1,Z')/\Ps Z' pb lv ts (Ce nd.con l R.er).2.2.1 (R.e (Ce nd.con l R.er).2.2.2)/\DZ Z' nb ((nd.cn (Ce nd.con l R.er).2.1).c iv fv)/\Fr (fun k=>k=pb\/k=nb) Z Z'
def VP (F:List V->H->AH):Prop:=∀{Z:H} {pb nb:Nat} {lv iv fv:V} {ts l:List A4} {R:Rp} {nd:AL},Ps Z pb lv ts l R->An pb lv nb->DZ Z nb (nd.c iv fv) ->
 ∃Z',F [.ptr pb 0,.ptr nb 5] Z=some (.bool (Da nd.con l R.er).1,Z')/\Ps Z' pb lv ts (Da nd.con l R.er).2.2.1 (R.e (Da nd.con l R.er).2.2.2)/\DZ Z' nb ((nd.cn (Da nd.con l R.er).2.1).c iv fv)/\Fr (fun k=>k=pb\/k=nb) Z Z'
section
variable {E:EB} {D:BB} {W:AJ} {N:Nat}
theorem Dh (hW:Di (D 16)) {Z:H} {pb:Nat} {lv:V} {ts l:List A4} {R:Rp} (h:Ps Z pb lv ts l R) (ss:List BS) (hs:ss.length<=10) :
  ∃Z1 Z',CO Z (.cells (ss.map .str))=Z1/\D 16 [.ptr pb 0,.sl Z.next 0 ss.length (.ex ss.length)] Z1=some (.bool (Aj ss l R.er).1,Z')/\Ps Z' pb lv ts (Aj ss l R.er).2.1 (R.e (Aj ss l R.er).2.2)/\Fr (fun k=>k=pb) Z Z':=by
 obtain⟨Z1,e1,f1,a1,n1⟩:=Nx h.ht (ss.map .str)
 have hl:=h.lt
 obtain⟨Z',g,p,f⟩:=hW ss (h.fr0 f1) a1 (by omega) hs
 exact⟨Z1,Z',e1,g,p,(f1.mono (fun _ _ h=>h.elim):Fr (fun k=>k=pb) Z Z1).trans f (fun _ _ h=>h)⟩
theorem kZ:UF (uQ E D W N):=by
 intro Z t ht
 obtain⟨Z1,e1,f1,a1,n1⟩:=Nx ht (Ca t)
 refine⟨Z1,?_,f1⟩
 have two:∀b:Bool,Zw E D W N b Z1=some (.bool b,Z1):=fun b=>by cases b<;>rfl
 have one:∀(b:Bool) (a:AH) (c:Bool),a=some (.bool c,Z1)->AI b (some (.bool b,Z1)) a=some (.bool (b || c),Z1):=fun b a c h=>by
  subst h;cases b<;>rfl
 unfold Ca at a1 e1
 show ZO E D W (ZN E D W) (Zw E D W N) (AA t.1) (Cj t.2.1) (AA t.2.2) Z=_
 unfold ZO ZN PO T1
 by_cases h1:t.1=1
 ·rw[if_pos h1]
  simp -implicitDefEqProofs only [↓rP,rA,AD,AE,AB,↓e1,↓Av a1,decide_eq_true h1]
 ·rw[if_neg h1]
  by_cases h6:t.1=6
  ·rw[if_pos h6]
   simp -implicitDefEqProofs only [↓rP,rA,AD,AE,AB,↓e1,↓Av a1,decide_eq_false h1,decide_eq_true h6]
  ·rw[if_neg h6]
   by_cases h5:t.1=5
   ·rw[if_pos h5]
    simp -implicitDefEqProofs only [↓rP,rA,AD,AE,AB,↓e1,↓Av a1,decide_eq_false h1,decide_eq_false h6,decide_eq_true h5]
    simp only[two]
    unfold tyW
    simp only[List.any_cons,List.any_nil]
    repeat (refine one _ _ _ ?_)
    rw[JK]
   ·rw[if_neg h5]
    simp -implicitDefEqProofs only [↓rP,rA,AD,AE,AB,↓e1,↓Av a1,decide_eq_false h1,decide_eq_false h6,decide_eq_false h5]
theorem cH (hI:Ft (D 38)) (hN:Jp (D 68)) (hF:GX (D 36)) (hW:Di (D 16)):RP (uM E D W N):=by
 intro Z pb lv ts l R h
 obtain⟨Z1,g1,p1,f1⟩:=hI (BS.mk 1 91) h
 show ∃Z',Mn E D W (Mm E D W) pb 0 Z=_/\_
 unfold Fp
 generalize CE (BS.mk 1 91) l=i1 at g1 p1 ⊢
 obtain⟨b1,l1⟩:=i1
 cases b1 with
 | false=>
  refine⟨Z1,?_,p1,f1⟩
  unfold Mn Mm
  simp -implicitDefEqProofs only [↓rP,rS,↓g1]
  rfl
 | true=>
  obtain⟨Z2,g2,p2,f2⟩:=hN p1
  unfold Ca at g2
  simp only[]at p1 g2 p2 ⊢
  generalize Ed l1 R.er=i2 at g2 p2 ⊢
  obtain⟨b2,n,l2,er2⟩:=i2
  have f02:=f1.trans f2 (fun _ _ h=>h)
  cases b2 with
  | false=>
   refine⟨Z2,?_,p2,f02⟩
   unfold Mn Mm
   simp -implicitDefEqProofs only [↓rP,rS,↓g1,↓g2]
   rfl
  | true=>
   simp only[]at g2 p2 ⊢
   obtain⟨Z3,g3,p3,f3⟩:=hF (CF l1).2.2 12 p2
   obtain⟨Z4,Z5,e4,g5,p5,f5⟩:=Dh hW p2 [BS.mk 1 93] (by decide)
   have e4:CO Z2 (.cells [.str (BS.mk 1 93)])=Z4:=e4
   have g5:D 16 [.ptr pb 0,.sl Z2.next 0 1 (.ex 1)] Z4=some (.bool (Aj [BS.mk 1 93] l2 er2).1,Z5):=g5
   have p5:Ps Z5 pb lv ts (Aj [BS.mk 1 93] l2 er2).2.1 (R.e (Aj [BS.mk 1 93] l2 er2).2.2):=p5
   have p3:Ps Z3 pb lv ts l2 (R.e (FH er2 (CF l1).2.2 12)):=p3
   cases hb:(Dt n (AA 0) || Dt (AA 268435456) n)with
   | true=>
    refine⟨Z3,?_,p3,f02.trans f3 (fun _ _ h=>h)⟩
    unfold Mn Mm
    cases h1:Dt n (AA 0)<;>cases h2:Dt (AA 268435456) n<;>rw[h1,h2]at hb <;>
     first
     | (cases hb;done)
     | (simp -implicitDefEqProofs only [↓rP,rS,↓g1,↓g2,h1,h2,↓g3];done)
     | (simp -implicitDefEqProofs only [↓rP,rS,↓g1,↓g2,h1,h2,↓g3];rfl)
   | false=>
    rw[BN]at hb
    obtain⟨h1,h2⟩:=hb
    generalize Aj [BS.mk 1 93] l2 er2=i5 at g5 p5 ⊢
    obtain⟨b5,l5,er5⟩:=i5
    have f05:=f02.trans f5 (fun _ _ h=>h)
    cases b5 with
    | false=>
     refine⟨Z5,?_,p5,f05⟩
     unfold Mn Mm
     simp -implicitDefEqProofs only [↓rP,rS,↓g1,↓g2,h1,h2,↓e4,↓g5]
     rfl
    | true=>
     simp only[]at g5 p5 ⊢
     obtain⟨Z6,g6,p6,f6⟩:=hI (BS.mk 8 6073459554577832005) p5
     generalize CE (BS.mk 8 6073459554577832005) l5=i6 at g6 p6 ⊢
     obtain⟨b6,l6⟩:=i6
     cases b6 with
     | true=>
      refine⟨Z6,?_,p6,f05.trans f6 (fun _ _ h=>h)⟩
      unfold Mn Mm
      simp -implicitDefEqProofs only [↓rP,rS,↓g1,↓g2,h1,h2,↓e4,↓g5,↓g6]
     | false=>
      simp only[]at p6 ⊢
      obtain⟨Z7,g7,p7,f7⟩:=hI (BS.mk 8 6073459554577829193) p6
      generalize CE (BS.mk 8 6073459554577829193) l6=i7 at g7 p7 ⊢
      obtain⟨b7,l7⟩:=i7
      refine⟨Z7,?_,?_,(f05.trans f6 (fun _ _ h=>h)).trans f7 (fun _ _ h=>h)⟩
      ·unfold Mn Mm
       cases b7<;>simp -implicitDefEqProofs only [↓rP,rS,↓g1,↓g2,h1,h2,↓e4,↓g5,↓g6,↓g7]
      ·cases b7<;>exact p7
theorem yA (hI:Ft (D 38)) (hN:Jp (D 68)) {Z:H} {pb nb:Nat} {lv iv fv:V} {ts l:List A4} {R:Rp} {nd:AL} (h:Ps Z pb lv ts l R) (an:An pb lv nb) (a:DZ Z nb (nd.c iv fv)) (K:Nat->Nat->Nat->Nat->H->AH) :
  ∃Z',QK E D W K pb 0 nb 5 Z=(match (Je ⟨true,nd.con.hasLow,nd.con.hasHigh,nd.con.more,nd.con.low,nd.con.high⟩ l R.er).1 with | true=>K pb 0 nb 5 Z' | false=>some (.bool false,Z')) /\
   Ps Z' pb lv ts (Je ⟨true,nd.con.hasLow,nd.con.hasHigh,nd.con.more,nd.con.low,nd.con.high⟩ l R.er).2.2.1 (R.e (Je ⟨true,nd.con.hasLow,nd.con.hasHigh,nd.con.more,nd.con.low,nd.con.high⟩ l R.er).2.2.2)/\DZ Z' nb ((nd.cn (Je ⟨true,nd.con.hasLow,nd.con.hasHigh,nd.con.more,nd.con.low,nd.con.high⟩ l R.er).2.1).c iv fv)/\Fr (fun k=>k=pb\/k=nb) Z Z':=by
 obtain⟨c0,hc0⟩:∃c0:Fw,c0=⟨true,nd.con.hasLow,nd.con.hasHigh,nd.con.more,nd.con.low,nd.con.high⟩:=⟨_,rfl⟩
 rw[<-hc0]
 obtain⟨Z1,s1,a1,f1⟩:=MX (n:=1) (o:=5) (v := .bool true) (l':=(nd.cn c0).c iv fv) h.ht a rfl (by rw[hc0];rfl)
 have p1:=h.fr f1 (fun e=>an.p e.symm) (fun b hb e=>an.l b hb e)
 obtain⟨Z2,g2,p2,f2⟩:=hI (BS.mk 3 5130573) p1
 have a2:=f2.at_ a1 f1.tidy an.p
 have f02:Fr (fun k=>k=pb\/k=nb) Z Z2:=(f1.mono (fun _ _ h => .inr h):Fr (fun k=>k=pb\/k=nb) Z Z1).trans f2 (fun _ _ h => .inl h)
 unfold Je
 generalize CE (BS.mk 3 5130573) l=i2 at g2 p2 ⊢
 obtain⟨b2,l2⟩:=i2
 cases b2 with
 | true=>
  refine⟨Z2,?_,p2,a2,f02⟩
  unfold QK
  simp -implicitDefEqProofs only [↓rP,rA,AD,AE,AB,↓s1,↓g2]
 | false=>
  obtain⟨Z3,g3,p3,f3⟩:=hN p2
  unfold Ca at g3
  have a3:=f3.at_ a2 p2.ht an.p
  simp only[]at p2 g3 p3 ⊢
  have f03:=f02.trans f3 (fun _ _ h => .inl h)
  generalize Ed l2 R.er=i3 at g3 p3 ⊢
  obtain⟨b3,n,l3,er3⟩:=i3
  cases b3 with
  | false=>
   refine⟨Z3,?_,p3,a3,f03⟩
   unfold QK
   simp -implicitDefEqProofs only [↓rP,rA,AD,AE,AB,↓s1,↓g2,↓g3]
  | true=>
   simp only[]at g3 p3 ⊢
   obtain⟨Z4,s4,a4,f4⟩:=MX (n:=1) (o:=6) (v := .bool true) (l':=(nd.cn ⟨c0.has,true,c0.hasHigh,c0.more,c0.low,c0.high⟩).c iv fv) p3.ht a3 rfl rfl
   obtain⟨Z5,s5,a5,f5⟩:=MX (n:=1) (o:=9) (v := .int .i64 n) (l':=(nd.cn ⟨c0.has,true,c0.hasHigh,c0.more,n,c0.high⟩).c iv fv) f4.tidy a4 rfl rfl
   have f45:=f4.trans f5 (fun _ _ h=>h)
   refine⟨Z5,?_,p3.fr f45 (fun e=>an.p e.symm) (fun b hb e=>an.l b hb e),a5,f03.trans f45 (fun _ _ h => .inr h)⟩
   unfold QK
   simp -implicitDefEqProofs only [↓rP,rA,AD,AE,AB,↓s1,↓g2,↓g3,↓s4,↓s5]
theorem qH (hI:Ft (D 38)) (hN:Jp (D 68)) {Z:H} {pb nb:Nat} {lv iv fv:V} {ts l:List A4} {R:Rp} {nd:AL} (h:Ps Z pb lv ts l R) (an:An pb lv nb) (a:DZ Z nb (nd.c iv fv)) (K:Nat->Nat->Nat->Nat->H->AH) :
  ∃Z',Ml E D W K pb 0 nb 5 Z=(match (Gi nd.con l R.er).1 with | true=>K pb 0 nb 5 Z' | false=>some (.bool false,Z')) /\
   Ps Z' pb lv ts (Gi nd.con l R.er).2.2.1 (R.e (Gi nd.con l R.er).2.2.2)/\DZ Z' nb ((nd.cn (Gi nd.con l R.er).2.1).c iv fv)/\Fr (fun k=>k=pb\/k=nb) Z Z':=by
 obtain⟨Z2,g2,p2,f2⟩:=hI (BS.mk 2 11822) h
 have a2:=f2.at_ a h.ht an.p
 unfold Gi
 have f02:Fr (fun k=>k=pb\/k=nb) Z Z2:=f2.mono (fun _ _ h => .inl h)
 generalize CE (BS.mk 2 11822) l=i2 at g2 p2 ⊢
 obtain⟨b2,l2⟩:=i2
 cases b2 with
 | false=>
  obtain⟨Z4,s4,a4,f4⟩:=MX (n:=1) (o:=7) (v := .bool nd.con.hasLow) (l':=(nd.cn ⟨nd.con.has,nd.con.hasLow,nd.con.hasLow,nd.con.more,nd.con.low,nd.con.high⟩).c iv fv) p2.ht a2 rfl rfl
  obtain⟨Z5,s5,a5,f5⟩:=MX (n:=1) (o:=10) (v := .int .i64 nd.con.low) (l':=(nd.cn ⟨nd.con.has,nd.con.hasLow,nd.con.hasLow,nd.con.more,nd.con.low,nd.con.low⟩).c iv fv) f4.tidy a4 rfl rfl
  have f45:=f4.trans f5 (fun _ _ h=>h)
  refine⟨Z5,?_,p2.fr f45 (fun e=>an.p e.symm) (fun b hb e=>an.l b hb e),a5,f02.trans f45 (fun _ _ h => .inr h)⟩
  unfold AL.c at a2
  unfold Ml
  simp -implicitDefEqProofs only [↓rP,rA,AD,AE,AB,↓g2,↓Av a2,↓s4,↓s5]
 | true=>
  obtain⟨Z3,g3,p3,f3⟩:=hI (BS.mk 3 5783885) p2
  have a3:=f3.at_ a2 p2.ht an.p
  have f03:=f02.trans f3 (fun _ _ h => .inl h)
  simp only[]at p2 g3 p3 ⊢
  generalize CE (BS.mk 3 5783885) l2=i3 at g3 p3 ⊢
  obtain⟨b3,l3⟩:=i3
  cases b3 with
  | true=>
   refine⟨Z3,?_,p3,a3,f03⟩
   unfold Ml
   simp -implicitDefEqProofs only [↓rP,rA,AD,AE,AB,↓g2,↓g3]
  | false=>
   obtain⟨Z4,g4,p4,f4⟩:=hN p3
   unfold Ca at g4
   have a4:=f4.at_ a3 p3.ht an.p
   have f04:=f03.trans f4 (fun _ _ h => .inl h)
   simp only[]at p3 g4 p4 ⊢
   generalize Ed l3 R.er=i4 at g4 p4 ⊢
   obtain⟨b4,n,l4,er4⟩:=i4
   cases b4 with
   | false=>
    refine⟨Z4,?_,p4,a4,f04⟩
    unfold Ml
    simp -implicitDefEqProofs only [↓rP,rA,AD,AE,AB,↓g2,↓g3,↓g4]
   | true=>
    simp only[]at g4 p4 ⊢
    obtain⟨Z5,s5,a5,f5⟩:=MX (n:=1) (o:=7) (v := .bool true) (l':=(nd.cn ⟨nd.con.has,nd.con.hasLow,true,nd.con.more,nd.con.low,nd.con.high⟩).c iv fv) p4.ht a4 rfl rfl
    obtain⟨Z6,s6,a6,f6⟩:=MX (n:=1) (o:=10) (v := .int .i64 n) (l':=(nd.cn ⟨nd.con.has,nd.con.hasLow,true,nd.con.more,nd.con.low,n⟩).c iv fv) f5.tidy a5 rfl rfl
    have f56:=f5.trans f6 (fun _ _ h=>h)
    refine⟨Z6,?_,p4.fr f56 (fun e=>an.p e.symm) (fun b hb e=>an.l b hb e),a6,f04.trans f56 (fun _ _ h => .inr h)⟩
    unfold Ml
    simp -implicitDefEqProofs only [↓rP,rA,AD,AE,AB,↓g2,↓g3,↓g4,↓s5,↓s6]
theorem qS (hI:Ft (D 38)) (hW:Di (D 16)) {Z:H} {pb nb:Nat} {lv iv fv:V} {ts l:List A4} {R:Rp} {nd:AL} (h:Ps Z pb lv ts l R) (an:An pb lv nb) (a:DZ Z nb (nd.c iv fv)) :
  ∃Z',OZ E D W pb 0 nb 5 Z=some (.bool (IY nd.con l R.er).1,Z') /\
   Ps Z' pb lv ts (IY nd.con l R.er).2.2.1 (R.e (IY nd.con l R.er).2.2.2)/\DZ Z' nb ((nd.cn (IY nd.con l R.er).2.1).c iv fv)/\Fr (fun k=>k=pb\/k=nb) Z Z':=by
 obtain⟨Z2,g2,p2,f2⟩:=hI (BS.mk 1 44) h
 have a2:=f2.at_ a h.ht an.p
 unfold IY
 have f02:Fr (fun k=>k=pb\/k=nb) Z Z2:=f2.mono (fun _ _ h => .inl h)
 generalize CE (BS.mk 1 44) l=i2 at g2 p2 ⊢
 obtain⟨b2,l2⟩:=i2
 cases b2 with
 | false=>
  refine⟨Z2,?_,p2,a2,f02⟩
  unfold OZ
  simp -implicitDefEqProofs only [↓rP,rA,AD,AE,AB,↓g2]
 | true=>
  obtain⟨Z4,s4,a4,f4⟩:=MX (n:=1) (o:=8) (v := .bool true) (l':=(nd.cn ⟨nd.con.has,nd.con.hasLow,nd.con.hasHigh,true,nd.con.low,nd.con.high⟩).c iv fv) p2.ht a2 rfl rfl
  have p4:=p2.fr f4 (fun e=>an.p e.symm) (fun b hb e=>an.l b hb e)
  obtain⟨Z5,Z6,e5,g6,p6,f6⟩:=Dh hW p4 [BS.mk 3 3026478] (by decide)
  have e5:CO Z4 (.cells [.str (BS.mk 3 3026478)])=Z5:=e5
  have a6:=f6.at_ a4 f4.tidy an.p
  simp only[]at g6 p6 ⊢
  have g6:D 16 [.ptr pb 0,.sl Z4.next 0 1 (.ex 1)] Z5=some (.bool (Aj [BS.mk 3 3026478] l2 R.er).1,Z6):=g6
  generalize Aj [BS.mk 3 3026478] l2 R.er=i6 at g6 p6 ⊢
  obtain⟨b6,l6,er6⟩:=i6
  refine⟨Z6,?_,p6,a6,(f02.trans f4 (fun _ _ h => .inr h)).trans f6 (fun _ _ h => .inl h)⟩
  unfold OZ
  simp -implicitDefEqProofs only [↓rP,rA,AD,AE,AB,↓g2,↓s4,↓e5,↓g6]
theorem kW (hI:Ft (D 38)) (hN:Jp (D 68)) (hW:Di (D 16)):RR (uK E D W N):=by
 intro Z pb nb lv iv fv ts l R nd h an a
 show ∃Z',QK E D W (Ml E D W (OZ E D W)) pb 0 nb 5 Z=_/\_
 obtain⟨Z1,g1,p1,a1,f1⟩:=yA (E:=E) (W:=W) hI hN h an a (Ml E D W (OZ E D W))
 unfold Ce
 generalize Je ⟨true,nd.con.hasLow,nd.con.hasHigh,nd.con.more,nd.con.low,nd.con.high⟩ l R.er=i1 at g1 p1 a1 ⊢
 obtain⟨b1,c1,l1,er1⟩:=i1
 cases b1 with
 | false=>exact⟨Z1,g1,p1,a1,f1⟩
 | true=>
  obtain⟨Z2,g2,p2,a2,f2⟩:=qH (E:=E) (W:=W) (nd:=nd.cn c1) hI hN p1 an a1 (OZ E D W)
  simp only[]at g1 ⊢
  have e1:(nd.cn c1).con=c1:=rfl
  rw[e1]at g2 p2 a2
  have er:(R.e er1).er=er1:=rfl
  simp only[]at p1 g2 p2 a2
  rw[er]at g2 p2 a2
  have f12:=f1.trans f2 (fun _ _ h=>h)
  generalize Gi c1 l1 er1=i2 at g2 p2 a2 ⊢
  obtain⟨b2,c2,l2,er2⟩:=i2
  cases b2 with
  | false=>exact⟨Z2,g1.trans g2,p2,a2,f12⟩
  | true=>
   obtain⟨Z3,g3,p3,a3,f3⟩:=qS (E:=E) (W:=W) (nd:=(nd.cn c1).cn c2) hI hW p2 an a2
   exact⟨Z3,(g1.trans g2).trans g3,p3,a3,f12.trans f3 (fun _ _ h=>h)⟩
theorem pW (hI:Ft (D 38)) (hW:Di (D 16)) (hB:RR (D 59)):VP (uL E D W N):=by
 intro Z pb nb lv iv fv ts l R nd h an a
 obtain⟨Z1,g1,p1,f1⟩:=hI (BS.mk 1 40) h
 have a1:=f1.at_ a h.ht an.p
 have f01:Fr (fun k=>k=pb\/k=nb) Z Z1:=f1.mono (fun _ _ h => .inl h)
 show ∃Z',QL E D W pb 0 (.ptr nb 5) Z=_/\_
 unfold Da
 generalize CE (BS.mk 1 40) l=i1 at g1 p1 ⊢
 obtain⟨b1,l1⟩:=i1
 cases b1 with
 | false=>
  refine⟨Z1,?_,p1,a1,f01⟩
  unfold QL
  simp -implicitDefEqProofs only [↓rP,rA,AD,AE,AB,↓g1]
 | true=>
  obtain⟨Z2,Z3,e2,g3,p3,f3⟩:=Dh hW p1 [BS.mk 4 1163544915,BS.mk 1 40] (by decide)
  have e2:CO Z1 (.cells [.str (BS.mk 4 1163544915),.str (BS.mk 1 40)])=Z2:=e2
  have a3:=f3.at_ a1 p1.ht an.p
  simp only[]at p1 g3 p3 ⊢
  have g3:D 16 [.ptr pb 0,.sl Z1.next 0 2 (.ex 2)] Z2=some (.bool (Aj [BS.mk 4 1163544915,BS.mk 1 40] l1 R.er).1,Z3):=g3
  have f03:=f01.trans f3 (fun _ _ h => .inl h)
  generalize Aj [BS.mk 4 1163544915,BS.mk 1 40] l1 R.er=i3 at g3 p3 ⊢
  obtain⟨b3,l3,er3⟩:=i3
  cases b3 with
  | false=>
   refine⟨Z3,?_,p3,a3,f03⟩
   unfold QL
   simp -implicitDefEqProofs only [↓rP,rA,AD,AE,AB,↓g1,↓e2,↓g3]
  | true=>
   obtain⟨Z4,g4,p4,a4,f4⟩:=hB p3 an a3
   simp only[]at p3 g4 p4 a4 ⊢
   have er:(R.e er3).er=er3:=rfl
   rw[er]at g4 p4 a4
   have f04:=f03.trans f4 (fun _ _ h=>h)
   generalize Ce nd.con l3 er3=i4 at g4 p4 a4 ⊢
   obtain⟨b4,c4,l4,er4⟩:=i4
   cases b4 with
   | false=>
    refine⟨Z4,?_,p4,a4,f04⟩
    unfold QL
    simp -implicitDefEqProofs only [↓rP,rA,AD,AE,AB,↓g1,↓e2,↓g3,↓g4]
   | true=>
    obtain⟨Z5,Z6,e5,g6,p6,f6⟩:=Dh hW p4 [BS.mk 1 41,BS.mk 1 41] (by decide)
    have e5:CO Z4 (.cells [.str (BS.mk 1 41),.str (BS.mk 1 41)])=Z5:=e5
    have a6:=f6.at_ a4 p4.ht an.p
    simp only[]at p4 g6 p6 ⊢
    have g6:D 16 [.ptr pb 0,.sl Z4.next 0 2 (.ex 2)] Z5=some (.bool (Aj [BS.mk 1 41,BS.mk 1 41] l4 er4).1,Z6):=g6
    have p6:Ps Z6 pb lv ts (Aj [BS.mk 1 41,BS.mk 1 41] l4 er4).2.1 (R.e (Aj [BS.mk 1 41,BS.mk 1 41] l4 er4).2.2):=p6
    generalize Aj [BS.mk 1 41,BS.mk 1 41] l4 er4=i6 at g6 p6 ⊢
    obtain⟨b6,l6,er6⟩:=i6
    refine⟨Z6,?_,p6,a6,f04.trans f6 (fun _ _ h => .inl h)⟩
    unfold QL
    simp -implicitDefEqProofs only [↓rP,rA,AD,AE,AB,↓g1,↓e2,↓g3,↓g4,↓e5,↓g6]
end
section
variable {E:EB} {D:BB} {Z Zc Z':H} {n i:Nat} {S:Nat->Prop} {d:Option Nat} {o:EK} {g:Option (Nat × Bool)} {l:List BR} {anc:Nat} {lk:List Nat} {pl:List DP} {e env:Bt} {nx am:Nat} {ss:List (EB)} {ks:List Nat} {ls:List (Nat × EK × Bt × V)}
theorem qK (v:V) (b:Gv) (am':Nat) (hr:EJ E Z n S nx ss am ls Zc) (hw:BZ (restr lk e) g=some true) (hc:o.cls = .a) (hi:i<n) (ham:am ||| 2 ^ i=am') (hv:CX o (restr lk e) (Z.next+i)=some (v,b))
  (k:∀ss',EJ E Z n S nx ss' am' ls ⟨Zc.next,(Z.next+i,b)::Zc.bl⟩->He E D Z n (i+1) S l pl ⟨Cb e d v,nx,ss',ks,am',ls⟩ env Z') :
  He E D Z n i S (⟨d,o,g⟩::l) (⟨anc,lk⟩::pl) ⟨e,nx,ss,ks,am,ls⟩ env Z':=by
 obtain⟨s',h1,h2,h3⟩:=yC (d:=d) (anc:=anc) v b am' hr hc hi ham hv k
 refine⟨s',?_,h2,h3⟩
 rw[<-h1]
 show (match Dd E D Z.next n i ⟨d,o,g⟩ ⟨anc,lk⟩ ⟨e,nx,ss,ks,am,ls⟩with | none=>none | some s'=>B6 E D Z.next n (i+1) l pl s')=(match Dd E D Z.next n i ⟨d,o,none⟩ ⟨anc,lk⟩ ⟨e,nx,ss,ks,am,ls⟩with | none=>none | some s'=>B6 E D Z.next n (i+1) l pl s')
 have:Dd E D Z.next n i ⟨d,o,g⟩ ⟨anc,lk⟩ ⟨e,nx,ss,ks,am,ls⟩=Dd E D Z.next n i ⟨d,o,none⟩ ⟨anc,lk⟩ ⟨e,nx,ss,ks,am,ls⟩:=by
  unfold Dd
  rw[hw,show BZ (restr lk e) none=some true from rfl]
 rw[this]
end
theorem WE {s:BS} {n n2 n3 gr:Int} {c c2:Bool} {x:V} (h:V.inn (fun _=>true) x=true):V.inn (fun _=>true) (.agg [.str s,.int .i64 n,.bool c,.bool c2,.int .i64 n2,.int .i64 n3,x,.nils,.int .i64 (AA 0),.nils,.int .i64 gr])=true:=by
 simp[V.inn,JG,h]
section
variable {E:EB} {D:BB} {N:Nat}
theorem WA {Z:H} {nb ib:Nat} {l:List V} {v:V} {k:Nat} {m:List V} {s:BS} {n:Int} {c:Bool} {p0:V} (ht:Ci Z) (ha:DZ Z nb l) (hv:l[11]? = some v) (hi:DZ Z ib [.str s,.int .i64 n,.bool c]) (hd:E6 Z 3 k v m) (hk:k<=9000) (hne:nb≠ib) (nv:¬AS v nb) (ni:¬AS v ib) :
    ∃e' u Z',A2 E D Ms KW [(0,p0),(1,.ptr nb 0),(5,.ptr ib 0)] Z=some (e',Z')/\Go.Og.look e' 0=some p0/\Go.Og.look e' 1=some (.ptr nb 0)/\DZ Z' nb (F0 l 11 [u])/\E6 Z' 3 (k+1) u (m++[.str s,.int .i64 n,.bool c])/\(∀b,AS u b->AS v b\/Z.next<=b)/\¬AS u nb/\Fr (fun b=>b=nb\/AS v b) Z Z':=by
  have fw:Fr BQ Z ⟨Z.next+11,Z.bl⟩:=(Du (E:=E) (n:=11) (S:=BQ) ht).fr
  have lb:=ha.lt ht
  have li:=hi.lt ht
  obtain⟨Za,ha'⟩:∃Za,Za=(⟨Z.next+11,(Z.next+6,.cells [.str s,.int .i64 n,.bool c])::Z.bl⟩:H):=⟨_,rfl⟩
  have fa:Fr BQ Z Za:=by
    rw[ha']
    refine⟨fun b hb=>?_,GD _ _,fun b hb hn=>?_⟩
    · have hb:Z.next+11<=b:=hb
      show Bl ((Z.next+6,_)::Z.bl) b=none
      rw[Bc,if_neg (by simp only[];omega)]
      exact ht b (by omega)
    · show Bl ((Z.next+6,_)::Z.bl) b=_
      rw[Bc,if_neg (by simp only[];omega)]
  have aa:DZ Za (Z.next+6) [.str s,.int .i64 n,.bool c]:=by
    rw[ha']
    show Bl ((Z.next+6,_)::Z.bl) _=_
    rw[Bc,if_pos rfl]
  have xs:GA Za 3 1 (V.sl (Z.next+6) 0 1 (.ex 1)) [.str s,.int .i64 n,.bool c] := .inr ⟨_,_,_,_,rfl,aa,AG _,rfl⟩
  have ho:BJ [.str s,.int .i64 n,.bool c]=true:=by simp only[B8,CS,Hn,G5,IW,HR,Be]
  obtain⟨u,Z2,g2,d2,m2,f2⟩:=Hs (E:=E) (bytes:=32) (hd.fr fa ht (fun _ _ h=>h)) fa.tidy xs ho (by unfold Cn;simp only[AF,Ai];omega)
  have na:Za.next=Z.next+11:=by rw[ha']
  have vl:∀b,AS v b->b<Z.next:=fun b hb=>hd.lt ht hb
  have a2:DZ Z2 nb l:=f2.at_ (fa.at_ ha ht (fun h=>h)) fa.tidy nv
  obtain⟨o1,o2⟩:=Gc d2.one
  have st:∃Z3,EO E D (.store 1 (.tmp 57) (.tmp 55)) [(57,.ptr nb 11),(55,u)] Z2=some (.dead,Z3)/\Fr (fun k=>k=nb) Z2 Z3/\DZ Z3 nb (F0 l 11 [u]):=by
    obtain⟨Z3,q1,q2,q3⟩:=ID (E:=E) (D:=D) (n:=1) (x := .tmp 57) (y := .tmp 55) (e:=[(57,.ptr nb 11),(55,u)]) f2.tidy a2 rfl (show (CV [(57,.ptr nb 11),(55,u)] (.tmp 55)).cells=[u] from o2) (by
      have:11<l.length:=by
        rcases Ad 11 l.length with h|h
        · exact h
        · rw[Af h]at hv;cases hv
      simp only[B8,CS,d2.one,Be,AM,A0,B2,EU,CQ,Ai];omega)
    exact⟨Z3,q1,q2,q3⟩
  obtain⟨Z3,g3,f3,c3⟩:=st
  have un:¬AS u nb:=fun h=>(m2 nb h).elim nv fun h=>by omega
  have vb:V.beq v v=true:=by
    rcases hd with h|⟨b,rfl,_⟩
    · rcases h with ⟨_,rfl,_⟩ | ⟨_,rfl,_⟩<;>exact C8 _ rfl
    · exact C8 _ rfl
  have go:G0 (Mt E Z 11 KW _ Z3) E D Z 11 0 Ms KW ⟨[(0,p0),(1,.ptr nb 0),(5,.ptr ib 0)],Z.next+11,[Z.bl],[],0,[]⟩:=
    Dm (.ptr nb 0) rfl rfl <|
    Dm (.ptr nb 0) rfl rfl <|
    Dm (.ptr nb 0) rfl rfl <|
    Dm (.ptr nb 11) rfl rfl <|
    N8 v (Du (S:=AS v) ht) rfl (G6 (b:=nb) (off:=11) rfl ha hv ht nv vb) fun r1=>
    N8 (.agg [.str s,.int .i64 n,.bool c]) r1 rfl (LR (b:=ib) (off:=0) rfl hi rfl rfl ht ni (C8 _ rfl)) fun r2=>
    Ut (.sl (Z.next+6) 0 1 (.ex 1)) (.cells [.str s,.int .i64 n,.bool c]) 64 r2 rfl (by decide) (by decide) rfl fun _ r3=>
    Ur u (by rw[<-ha']at r3;exact r3) rfl (by decide) (S':=AS v) f2 (fun _ _ h=>h) (fun b h h1 _=>by have:=vl b h;omega) (NN rfl rfl g2) fun _ _ r4=>
    Dm (.ptr nb 0) rfl rfl <|
    Dm (.ptr nb 11) rfl rfl <|
    Us .dead r4 rfl (by decide) f3 (fun b h h1 _=>by omega) g3 (fun x hx=>by
      simp only[BF,Ey,or_false]at hx
      rcases hx with rfl|rfl
      · show I2 KW 5 [10,7] []=false
        decide
      · show I2 KW 4 [10,7] []=false
        decide)
  have d:=N9 (ops:=Ms) go
  refine⟨_,u,Z3,d,rfl,rfl,c3,d2.fr f3 f2.tidy (fun b hb e=>un (e ▸ hb)),fun b hb=>(m2 b hb).elim .inl (fun h => .inr (by omega)),un,?_⟩
  exact((fa.mono (fun _ _ h=>h.elim):Fr (fun b=>b=nb\/AS v b) Z Za).trans f2 (fun _ _ h => .inr h)).trans f3 (fun _ _ h => .inl h)
theorem Tp {Z:H} {nb ib:Nat} {l:List V} {v:V} {k:Nat} {m:List V} {s:BS} {n:Int} {c:Bool} {gr n2 n3:Int} {c2 p0:Bool} {x:V} (ht:Ci Z) (ha:DZ Z nb l) (hv:l[12]? = some v) (hi:DZ Z ib [.str s,.int .i64 n,.bool c,.bool c2,.int .i64 n2,.int .i64 n3,x,.nils,.int .i64 (AA 0),.nils,.int .i64 gr]) (hd:E6 Z 11 k v m) (hk:k<=9000) (hne:nb≠ib) (nv:¬AS v nb) (ni:¬AS v ib) (hx:x = .nils\/∃b o k c,x = .sl b o k c) :
    ∃e' u Z',A2 E D QX Mq [(1,.ptr nb 0),(10,.bool p0),(11,.ptr ib 0)] Z=some (e',Z')/\Go.Og.look e' 10=some (.bool p0)/\DZ Z' nb (F0 l 12 [u])/\E6 Z' 11 (k+1) u (m++[.str s,.int .i64 n,.bool c,.bool c2,.int .i64 n2,.int .i64 n3,x,.nils,.int .i64 (AA 0),.nils,.int .i64 gr])/\(∀b,AS u b->AS v b\/Z.next<=b)/\¬AS u nb/\Fr (fun b=>b=nb\/AS v b) Z Z':=by
  have fw:Fr BQ Z ⟨Z.next+11,Z.bl⟩:=(Du (E:=E) (n:=11) (S:=BQ) ht).fr
  have xo:x.one=true:=by rcases hx with rfl | ⟨b,o,k,c,rfl⟩<;>rfl
  have xb:V.inn (fun _=>true) x=true:=by rcases hx with rfl | ⟨b,o,k,c,rfl⟩<;>simp[V.inn]
  have lb:=ha.lt ht
  have li:=hi.lt ht
  obtain⟨Za,ha'⟩:∃Za,Za=(⟨Z.next+11,(Z.next+6,.cells [.str s,.int .i64 n,.bool c,.bool c2,.int .i64 n2,.int .i64 n3,x,.nils,.int .i64 (AA 0),.nils,.int .i64 gr])::Z.bl⟩:H):=⟨_,rfl⟩
  have fa:Fr BQ Z Za:=by
    rw[ha']
    refine⟨fun b hb=>?_,GD _ _,fun b hb hn=>?_⟩
    · have hb:Z.next+11<=b:=hb
      show Bl ((Z.next+6,_)::Z.bl) b=none
      rw[Bc,if_neg (by simp only[];omega)]
      exact ht b (by omega)
    · show Bl ((Z.next+6,_)::Z.bl) b=_
      rw[Bc,if_neg (by simp only[];omega)]
  have aa:DZ Za (Z.next+6) [.str s,.int .i64 n,.bool c,.bool c2,.int .i64 n2,.int .i64 n3,x,.nils,.int .i64 (AA 0),.nils,.int .i64 gr]:=by
    rw[ha']
    show Bl ((Z.next+6,_)::Z.bl) _=_
    rw[Bc,if_pos rfl]
  have xs:GA Za 11 1 (V.sl (Z.next+6) 0 1 (.ex 1)) [.str s,.int .i64 n,.bool c,.bool c2,.int .i64 n2,.int .i64 n3,x,.nils,.int .i64 (AA 0),.nils,.int .i64 gr] := .inr ⟨_,_,_,_,rfl,aa,AG _,rfl⟩
  have ho:BJ [.str s,.int .i64 n,.bool c,.bool c2,.int .i64 n2,.int .i64 n3,x,.nils,.int .i64 (AA 0),.nils,.int .i64 gr]=true:=by simp only[B8,CS,Hn,G5,IW,HR,xo,Be]
  obtain⟨u,Z2,g2,d2,m2,f2⟩:=Hs (E:=E) (bytes:=136) (hd.fr fa ht (fun _ _ h=>h)) fa.tidy xs ho (by unfold Cn;simp only[AF,Ai];omega)
  have na:Za.next=Z.next+11:=by rw[ha']
  have vl:∀b,AS v b->b<Z.next:=fun b hb=>hd.lt ht hb
  have a2:DZ Z2 nb l:=f2.at_ (fa.at_ ha ht (fun h=>h)) fa.tidy nv
  obtain⟨o1,o2⟩:=Gc d2.one
  have st:∃Z3,EO E D (.store 1 (.tmp 66) (.tmp 64)) [(66,.ptr nb 12),(64,u)] Z2=some (.dead,Z3)/\Fr (fun k=>k=nb) Z2 Z3/\DZ Z3 nb (F0 l 12 [u]):=by
    obtain⟨Z3,q1,q2,q3⟩:=ID (E:=E) (D:=D) (n:=1) (x := .tmp 66) (y := .tmp 64) (e:=[(66,.ptr nb 12),(64,u)]) f2.tidy a2 rfl (show (CV [(66,.ptr nb 12),(64,u)] (.tmp 64)).cells=[u] from o2) (by
      have:12<l.length:=by
        rcases Ad 12 l.length with h|h
        · exact h
        · rw[Af h]at hv;cases hv
      simp only[B8,CS,d2.one,Be,AM,A0,B2,EU,CQ,Ai];omega)
    exact⟨Z3,q1,q2,q3⟩
  obtain⟨Z3,g3,f3,c3⟩:=st
  have un:¬AS u nb:=fun h=>(m2 nb h).elim nv fun h=>by omega
  have vb:V.beq v v=true:=by
    rcases hd with h|⟨b,rfl,_⟩
    · rcases h with ⟨_,rfl,_⟩ | ⟨_,rfl,_⟩<;>exact C8 _ rfl
    · exact C8 _ rfl
  have go:G0 (Mt E Z 11 Mq _ Z3) E D Z 11 0 QX Mq ⟨[(1,.ptr nb 0),(10,.bool p0),(11,.ptr ib 0)],Z.next+11,[Z.bl],[],0,[]⟩:=
    Dm (.ptr nb 0) rfl rfl <|
    Dm (.ptr nb 0) rfl rfl <|
    Dm (.ptr nb 0) rfl rfl <|
    Dm (.ptr nb 12) rfl rfl <|
    N8 v (Du (S:=AS v) ht) rfl (G6 (b:=nb) (off:=12) rfl ha hv ht nv vb) fun r1=>
    N8 (.agg [.str s,.int .i64 n,.bool c,.bool c2,.int .i64 n2,.int .i64 n3,x,.nils,.int .i64 (AA 0),.nils,.int .i64 gr]) r1 rfl (LR (b:=ib) (off:=0) rfl hi rfl rfl ht ni (C8 _ (WE xb))) fun r2=>
    Ut (.sl (Z.next+6) 0 1 (.ex 1)) (.cells [.str s,.int .i64 n,.bool c,.bool c2,.int .i64 n2,.int .i64 n3,x,.nils,.int .i64 (AA 0),.nils,.int .i64 gr]) 64 r2 rfl (by decide) (by decide) (by rcases hx with rfl | ⟨b,o,k,c,rfl⟩<;>rfl) fun _ r3=>
    Ur u (by rw[<-ha']at r3;exact r3) rfl (by decide) (S':=AS v) f2 (fun _ _ h=>h) (fun b h h1 _=>by have:=vl b h;omega) (NN rfl rfl g2) fun _ _ r4=>
    Dm (.ptr nb 0) rfl rfl <|
    Dm (.ptr nb 12) rfl rfl <|
    Us .dead r4 rfl (by decide) f3 (fun b h h1 _=>by omega) g3 (fun x hx=>by
      simp only[BF,Ey,or_false]at hx
      rcases hx with rfl|rfl
      · show I2 Mq 5 [10,7] []=false
        decide
      · show I2 Mq 4 [10,7] []=false
        decide)
  have d:=N9 (ops:=QX) go
  refine⟨_,u,Z3,d,rfl,c3,d2.fr f3 f2.tidy (fun b hb e=>un (e ▸ hb)),fun b hb=>(m2 b hb).elim .inl (fun h => .inr (by omega)),un,?_⟩
  exact((fa.mono (fun _ _ h=>h.elim):Fr (fun b=>b=nb\/AS v b) Z Za).trans f2 (fun _ _ h => .inr h)).trans f3 (fun _ _ h => .inl h)
end
def Jq.c (x:Jq):List V:=[.str (Cj x.name),.int .i64 x.num,.bool x.has]
def Fh (b:Bool) (ss:List BS) (l:List A4) (er:Er):Bool × List A4 × Er:=match b with
 | true=>Aj ss l er
 | false=>(false,l,er)
def ED (l:List A4) (er:Er):Bool × Jq × List A4 × Er:=match IL 2 l er with
 | (false,l1,er1)=>(false,⟨(CF l).2.1,0,false⟩,l1,er1)
 | (true,l1,er1)=>match CE (BS.mk 1 40) l1 with
  | (false,l2)=>(true,⟨(CF l).2.1,0,false⟩,l2,er1)
  | (true,l2)=>match Ed l2 er1 with
   | (b,n,l3,er3)=>match Fh b [BS.mk 1 41] l3 er3 with
    | (ok,l4,er4)=>(ok,⟨(CF l).2.1,n,true⟩,l4,er4)
theorem MI (l:List A4):(JE l).length<=l.length:=by
 unfold JE
 split<;>simp
theorem Cs (s:BS) (l:List A4):(CE s l).2.length<=l.length:=by
 unfold CE
 cases MY s l with
 | true=>exact MI l
 | false=>exact AG _
theorem Cm:∀(ss:List BS) (l:List A4) (er:Er),(Aj ss l er).2.1.length<=l.length
 | [],l,er=>AG _
 | s::ss,l,er=>by
  unfold Aj
  cases MY s l with
  | true=>exact AN (Cm ss _ er) (MI l)
  | false=>exact AG _
theorem J2 (b:Bool) (ss:List BS) (l:List A4) (er:Er):(Fh b ss l er).2.1.length<=l.length:=by
 cases b with
 | true=>exact Cm ss l er
 | false=>exact AG _
theorem Tc (k:Nat) (l:List A4) (er:Er):(IL k l er).2.1.length<=l.length:=by
 unfold IL
 cases decide ((CF l).1=k)with
 | true=>exact MI l
 | false=>exact AG _
theorem J5 (l:List A4) (er:Er):(Ed l er).2.2.1.length<=l.length:=by
 unfold Ed
 cases decide ((CF l).1=3)with
 | true=>exact MI l
 | false=>exact AG _
section
variable {Z:H} {pb:Nat} {lv:V} {ts l:List A4} {R:Rp}
theorem Ps.less (h:Ps Z pb lv ts l R) (h0:(CF l).1≠0):(JE l).length+1<=l.length:=by
 obtain⟨t,l,rfl⟩:=h.hd
 cases l with
 | nil=>exact absurd (h.end_iff.2 rfl) h0
 | cons t2 l=>simp[JE]
theorem Ps.isS_lt (h:Ps Z pb lv ts l R) {s:BS} {l':List A4} (e:CE s l=(true,l')):l'.length+1<=l.length:=by
 unfold CE at e
 cases hb:MY s l with
 | false=>rw[hb]at e;cases e
 | true=>
  rw[hb]at e
  cases e
  refine h.less fun h0=>?_
  unfold MY at hb
  rw[h0]at hb
  cases hb
theorem Ps.ofS_lt (h:Ps Z pb lv ts l R) {k:Nat} {er er':Er} {l':List A4} (hk:k≠0) (e:IL k l er=(true,l',er')):l'.length+1<=l.length:=by
 unfold IL at e
 cases hb:decide ((CF l).1=k)with
 | false=>rw[hb]at e;cases e
 | true=>
  rw[hb]at e
  cases e
  exact h.less fun h0=>hk ((of_decide_eq_true hb).symm.trans h0)
end
theorem SN (l:List A4) (er:Er):(ED l er).2.2.1.length<=l.length:=by
 unfold ED
 have h1:=Tc 2 l er
 generalize IL 2 l er=i1 at h1 ⊢
 obtain⟨b1,l1,er1⟩:=i1
 cases b1 with
 | false=>exact h1
 | true=>
  have h2:=Cs (BS.mk 1 40) l1
  simp only[]at h1 ⊢
  generalize CE (BS.mk 1 40) l1=i2 at h2 ⊢
  obtain⟨b2,l2⟩:=i2
  cases b2 with
  | false=>exact AN h2 h1
  | true=>
   have h3:=J5 l2 er1
   simp only[]at h2 ⊢
   generalize Ed l2 er1=i3 at h3 ⊢
   obtain⟨b3,n,l3,er3⟩:=i3
   have h4:=J2 b3 [BS.mk 1 41] l3 er3
   simp only[]at h3 ⊢
   generalize Fh b3 [BS.mk 1 41] l3 er3=i4 at h4 ⊢
   obtain⟨b4,l4,er4⟩:=i4
   simp only[]at h4 ⊢
   omega
theorem YX {Z:H} {pb:Nat} {lv:V} {ts l:List A4} {R:Rp} (h:Ps Z pb lv ts l R) {er er':Er} {x:Jq} {l':List A4} (e:ED l er=(true,x,l',er')):l'.length+1<=l.length:=by
 unfold ED at e
 cases hi:IL 2 l er with
 | mk b1 i1=>
  obtain⟨l1,er1⟩:=i1
  rw[hi]at e
  cases b1 with
  | false=>cases e
  | true=>
   have h1:=h.ofS_lt (by decide) hi
   have h2:=Cs (BS.mk 1 40) l1
   simp only[]at e
   generalize CE (BS.mk 1 40) l1=i2 at h2 e
   obtain⟨b2,l2⟩:=i2
   cases b2 with
   | false=>cases e;exact AN (UI h2) h1
   | true=>
    have h3:=J5 l2 er1
    simp only[]at h2 e
    generalize Ed l2 er1=i3 at h3 e
    obtain⟨b3,n,l3,er3⟩:=i3
    have h4:=J2 b3 [BS.mk 1 41] l3 er3
    simp only[]at h3 e
    generalize Fh b3 [BS.mk 1 41] l3 er3=i4 at h4 e
    obtain⟨b4,l4,er4⟩:=i4
    have e':l4=l':=congrArg (fun q:Bool × Jq × List A4 × Er=>q.2.2.1) e
    subst e'
    simp only[]at h3 h4
    omega
def NP (F:List V->H->AH):Prop:=∀{Z:H} {pb:Nat} {lv:V} {ts l:List A4} {R:Rp},Ps Z pb lv ts l R ->
 ∃Z',F [.ptr pb 0] Z=some (.tup [.agg (ED l R.er).2.1.c,.bool (ED l R.er).1],Z')/\Ps Z' pb lv ts (ED l R.er).2.2.1 (R.e (ED l R.er).2.2.2)/\Fr (fun k=>k=pb) Z Z'
theorem Ps.llt {Z:H} {pb:Nat} {lv:V} {ts l:List A4} {R:Rp} (h:Ps Z pb lv ts l R):∀b,AS lv b->b<Z.next:=fun b hb=>h.src.lt h.ht hb
section
variable {E:EB} {D:BB} {N:Nat}
theorem YU (hW:Di (D 16)) {Z:H} {pb rb ib:Nat} {lv:V} {ts l:List A4} {R:Rp} {s:BS} {n:Int} {c b:Bool} {z:List V} (h:Ps Z pb lv ts l R) (hi:DZ Z ib [.str s,.int .i64 n,.bool c]) (hr:DZ Z rb z) (hz:z.length=3) (n1:pb≠ib) (n2:rb≠pb) (n3:rb≠ib) (n4:∀b,AS lv b->b≠rb) :
  ∃e' Z',A2 E D Mr QW [(0,.ptr pb 0),(2,.ptr rb 0),(5,.bool b),(6,.ptr ib 0)] Z=some (e',Z')/\Go.Og.look e' 2=some (.ptr rb 0)/\Go.Og.look e' 3=some (.bool (Fh b [BS.mk 1 41] l R.er).1) /\
   Ps Z' pb lv ts (Fh b [BS.mk 1 41] l R.er).2.1 (R.e (Fh b [BS.mk 1 41] l R.er).2.2)/\DZ Z' rb [.str s,.int .i64 n,.bool c]/\Fr (fun k=>k=pb\/k=rb) Z Z':=by
 have ht:=h.ht
 have lp:=h.lt
 have lr:=hr.lt ht
 have li:=hi.lt ht
 have rp:(R.e R.er)=R:=rfl
 cases b with
 | false=>
  have fw:Fr BQ Z ⟨Z.next+9,Z.bl⟩:=(Du (E:=E) (n:=9) (S:=BQ) ht).fr
  have pw:=h.fr0 fw
  have rw':=fw.at_ hr ht (fun h=>h)
  obtain⟨Z3,g3,f3,c3⟩:=ID (E:=E) (D:=D) (n:=3) (x := .tmp 2) (y := .tmp 34) (e:=[(2,.ptr rb 0),(34,.agg [.str s,.int .i64 n,.bool c])]) fw.tidy rw' rfl rfl (by rw[hz];rfl)
  have go:He E D Z 9 0 (fun k=>k=pb\/k=rb) Mr QW ⟨[(0,.ptr pb 0),(2,.ptr rb 0),(5,.bool false),(6,.ptr ib 0)],Z.next+9,[Z.bl],[],0,[]⟩ _ Z3:=
   Tn (.agg [.str s,.int .i64 n,.bool c]) (Du ht) rfl (LR (b:=ib) (off:=0) rfl hi rfl rfl ht (fun e=>by omega) (C8 _ rfl)) fun _ r1=>
   HU (.bool false) rfl rfl <|
   HU (.bool false) rfl rfl <|
   Yc rfl <|
   Yc rfl <|
   Yc rfl <|
   HU (.bool false) rfl rfl <|
   SO .dead r1 rfl (by decide) (S':=fun k=>k=rb) f3 (fun _ _ h => .inr h) (fun b h h1 _=>by omega) g3 fun _ _ _ r4=>
   HU (.bool false) rfl rfl <|
   OA r4
  obtain⟨d1,d2⟩:=Ld (ops:=Mr) go
  have p3:=pw.fr f3 (fun e=>n2 e.symm) (fun b hb e=>n4 b hb e)
  have c3:DZ Z3 rb (F0 z 0 [.str s,.int .i64 n,.bool c]):=c3
  obtain⟨z0,z1,z2,rfl⟩:∃z0 z1 z2,z=[z0,z1,z2]:=by
   match z,hz with
   | [z0,z1,z2],_=>exact⟨z0,z1,z2,rfl⟩
  exact⟨_,Z3,d1,rfl,rfl,p3,c3,d2⟩
 | true=>
  obtain⟨Za,ha'⟩:∃Za,Za=(⟨Z.next+9,(Z.next+4,.cells [.str (BS.mk 1 41)])::Z.bl⟩:H):=⟨_,rfl⟩
  have fa:Fr BQ Z Za:=by
   rw[ha']
   refine⟨fun b hb=>?_,GD _ _,fun b hb hn=>?_⟩
   ·have hb:Z.next+9<=b:=hb
    show Bl ((Z.next+4,_)::Z.bl) b=none
    rw[Bc,if_neg (by simp only[];omega)]
    exact ht b (by omega)
   ·show Bl ((Z.next+4,_)::Z.bl) b=_
    rw[Bc,if_neg (by simp only[];omega)]
  have aa:DZ Za (Z.next+4) [.str (BS.mk 1 41)]:=by
   rw[ha']
   show Bl ((Z.next+4,_)::Z.bl) _=_
   rw[Bc,if_pos rfl]
  obtain⟨Z1,g1,p1,f1⟩:=hW [BS.mk 1 41] (h.fr0 fa) aa (by omega) (by decide)
  have g1:D 16 [.ptr pb 0,.sl (Z.next+4) 0 1 (.ex 1)] Za=some (.bool (Aj [BS.mk 1 41] l R.er).1,Z1):=g1
  have r1':DZ Z1 rb z:=f1.at_ (fa.at_ hr ht (fun h=>h)) fa.tidy n2
  obtain⟨Z3,g3,f3,c3⟩:=ID (E:=E) (D:=D) (n:=3) (x := .tmp 2) (y := .tmp 34) (e:=[(2,.ptr rb 0),(34,.agg [.str s,.int .i64 n,.bool c])]) f1.tidy r1' rfl rfl (by rw[hz];rfl)
  have go:He E D Z 9 0 (fun k=>k=pb\/k=rb) Mr QW ⟨[(0,.ptr pb 0),(2,.ptr rb 0),(5,.bool true),(6,.ptr ib 0)],Z.next+9,[Z.bl],[],0,[]⟩ _ Z3:=
   Tn (.agg [.str s,.int .i64 n,.bool c]) (Du ht) rfl (LR (b:=ib) (off:=0) rfl hi rfl rfl ht (fun e=>by omega) (C8 _ rfl)) fun _ r1=>
   HU (.bool true) rfl rfl <|
   HU (.bool true) rfl rfl <|
   qI (.ptr pb 0) rfl rfl rfl <|
   qK (.sl (Z.next+4) 0 1 (.ex 1)) (.cells [.str (BS.mk 1 41)]) 16 r1 rfl rfl (by decide) (by decide) rfl fun _ r2=>
   qJ (.bool (Aj [BS.mk 1 41] l R.er).1) (by rw[<-ha']at r2;exact r2) rfl rfl (by decide) (S':=fun k=>k=pb) f1 (fun _ _ h => .inl h) (fun b h h1 _=>by omega) (Uz (vs:=[.ptr pb 0,.sl (Z.next+4) 0 1 (.ex 1)]) rfl rfl g1) fun _ _ _ r3=>
   HU (.bool (Aj [BS.mk 1 41] l R.er).1) rfl rfl <|
   SO .dead r3 rfl (by decide) (S':=fun k=>k=rb) f3 (fun _ _ h => .inr h) (fun b h h1 _=>by omega) g3 fun _ _ _ r4=>
   HU (.bool (Aj [BS.mk 1 41] l R.er).1) rfl rfl <|
   OA r4
  obtain⟨d1,d2⟩:=Ld (ops:=Mr) go
  have p3:=p1.fr f3 (fun e=>n2 e.symm) (fun b hb e=>n4 b hb e)
  have c3:DZ Z3 rb (F0 z 0 [.str s,.int .i64 n,.bool c]):=c3
  obtain⟨z0,z1,z2,rfl⟩:∃z0 z1 z2,z=[z0,z1,z2]:=by
   match z,hz with
   | [z0,z1,z2],_=>exact⟨z0,z1,z2,rfl⟩
  exact⟨_,Z3,d1,rfl,rfl,p3,c3,d2⟩
theorem qC {Z:H} {b:Nat} {x y z:V} (h:DZ Z b [x,y,z]) (J:List V->AH):DB E Z b 0 3 J=J [x,y,z]:=by
 rw[Ho h];rfl
theorem cV (hO:Oh (D 15)) (hI:Ft (D 38)) (hN:Jp (D 68)) (hW:Di (D 16)):NP (uH E D (A2 E D) N):=by
 intro Z pb lv ts l R h
 obtain⟨Z0,e0,f0,a0,n0⟩:=Nx h.ht [.str ⟨0,0⟩,.int .i64 (AA 0),.bool false]
 have h0:=h.fr0 f0
 have lp:=h.lt
 have ll:=h.llt
 obtain⟨Z1,g1,p1,f1⟩:=hO 2 h0 h0.llt
 have g1:D 15 [.ptr pb 0,.int .i64 (AA 2)] Z0=some (.tup [.agg (Ca (CF l)),.bool (IL 2 l R.er).1],Z1):=g1
 unfold Ca at g1
 have a1:=f1.at_ a0 h0.ht (by omega)
 obtain⟨Z2,e2,f2,a2,n2⟩:=Nx p1.ht [.str ⟨0,0⟩,.int .i64 (AA 0),.bool false]
 obtain⟨Z3,s3,a3,f3⟩:=MX (n:=3) (o:=0) (v := .agg [.str (Cj (CF l).2.1),.int .i64 (AA 0),.bool false]) (l':=[.str (Cj (CF l).2.1),.int .i64 (AA 0),.bool false]) f2.tidy a2 rfl rfl
 have le1:=f1.le
 have f23:Fr BQ Z1 Z3:=f2.trans f3 (fun b hb e=>by omega)
 have p3:=p1.fr0 f23
 have b3:=f23.at_ a1 p1.ht (fun h=>h)
 have f03:Fr (fun k=>k=pb) Z Z3:=((f0.mono (fun _ _ h=>h.elim):Fr (fun k=>k=pb) Z Z0).trans f1 (fun _ _ h=>h)).trans f23 (fun _ _ h=>h.elim)
 show ∃Z',Si E D (A2 E D) pb 0 Z=_/\_
 have out:∀(Z4:H) (s:BS) (n:Int) (c:Bool) (l4:List A4) (er4:Er),Ps Z4 pb lv ts l4 (R.e er4)->Fr (fun k=>k=pb\/k=Z1.next) Z3 Z4->∃Z5,(∀J:H->AH,Dk 3 Z.next 0 (.agg [.str s,.int .i64 n,.bool c]) Z4 J=J Z5)/\Ps Z5 pb lv ts l4 (R.e er4)/\Fr (fun k=>k=pb) Z Z5/\DZ Z5 Z.next [.str s,.int .i64 n,.bool c]:=by
  intro Z4 s n c l4 er4 p4 f4
  have b4:=f4.at_ b3 p3.ht (by omega)
  obtain⟨Z5,s5,a5,f5⟩:=MX (n:=3) (o:=0) (v := .agg [.str s,.int .i64 n,.bool c]) (l':=[.str s,.int .i64 n,.bool c]) p4.ht b4 rfl rfl
  exact⟨Z5,s5,p4.fr f5 (by omega) (fun b hb e=>by have:=ll b hb;omega),(f03.trans f4 (fun b hb e=>by omega)).trans f5 (fun b hb e=>by omega),a5⟩
 unfold ED
 generalize IL 2 l R.er=i1 at g1 p1 p3 ⊢
 obtain⟨b1,l1,er1⟩:=i1
 cases b1 with
 | false=>
  obtain⟨Z5,s5,p5,f5,a5⟩:=out Z3 (Cj (CF l).2.1) (AA 0) false _ _ p3 (Fr.refl p3.ht)
  refine⟨Z5,?_,p5,f5⟩
  have r3:=qC (E:=E) a3
  have r5:=qC (E:=E) a5
  unfold Si
  simp -implicitDefEqProofs only [↓rP,rA,AD,AE,AB,↓e0,↓g1,↓e2,↓s3,↓r3,↓s5,↓r5]
  rfl
 | true=>
  obtain⟨Z4,g4,p4,f4⟩:=hI (BS.mk 1 40) p3
  have a4:=f4.at_ a3 p3.ht (by omega)
  simp only[]at g1 p3 g4 p4 ⊢
  generalize CE (BS.mk 1 40) l1=i4 at g4 p4 ⊢
  obtain⟨b4,l4⟩:=i4
  cases b4 with
  | false=>
   obtain⟨Z5,s5,p5,f5,a5⟩:=out Z4 (Cj (CF l).2.1) (AA 0) false _ _ p4 (f4.mono fun _ _ h => .inl h)
   refine⟨Z5,?_,p5,f5⟩
   have r4:=qC (E:=E) a4
   have r5:=qC (E:=E) a5
   unfold Si
   simp -implicitDefEqProofs only [↓rP,rA,AD,AE,AB,↓e0,↓g1,↓e2,↓s3,↓g4,↓r4,↓s5,↓r5]
   rfl
  | true=>
   obtain⟨Z5,s5,a5,f5⟩:=MX (n:=1) (o:=2) (v := .bool true) (l':=[.str (Cj (CF l).2.1),.int .i64 (AA 0),.bool true]) p4.ht a4 rfl rfl
   have p5:=p4.fr f5 (by omega) (fun b hb e=>by have:=ll b hb;omega)
   obtain⟨Z6,g6,p6,f6⟩:=hN p5
   unfold Ca at g6
   simp only[]at g4 p4 p5 g6 p6 ⊢
   have a6:=f6.at_ a5 p5.ht (by omega)
   have er:(R.e er1).er=er1:=rfl
   rw[er]at g6 p6
   generalize Ed l4 er1=i6 at g6 p6 ⊢
   obtain⟨b6,n,l6,er6⟩:=i6
   simp only[]at g6 p6 ⊢
   have p6:Ps Z6 pb lv ts l6 (R.e er6):=p6
   obtain⟨Z7,s7,a7,f7⟩:=MX (n:=1) (o:=1) (v := .int .i64 n) (l':=[.str (Cj (CF l).2.1),.int .i64 n,.bool true]) p6.ht a6 rfl rfl
   have p7:=p6.fr f7 (by omega) (fun b hb e=>by have:=ll b hb;omega)
   have f37:Fr (fun k=>k=pb\/k=Z1.next) Z3 Z7:=(((f4.mono (fun _ _ h => .inl h):Fr (fun k=>k=pb\/k=Z1.next) Z3 Z4).trans f5 (fun _ _ h => .inr h)).trans f6 (fun _ _ h => .inl h)).trans f7 (fun _ _ h => .inr h)
   have b7:=f37.at_ b3 p3.ht (by omega)
   obtain⟨e',Z8,g8,t2,t3,p8,a8,f8⟩:=YU (E:=E) (b:=b6) hW p7 a7 b7 rfl (by omega) (by omega) (by omega) (fun b hb e=>by have:=ll b hb;omega)
   have er7:(R.e er6).er=er6:=rfl
   rw[er7]at t3 p8
   have r8:=qC (E:=E) a8
   have gd:∀J:Bt->H->AH,Ee (A2 E D Mr QW [(0,.ptr pb 0),(2,.ptr Z.next 0),(5,.bool b6),(6,.ptr Z1.next 0)] Z7) J=J e' Z8:=fun J=>by rw[g8];rfl
   have m2:∀J:V->AH,E0 e' 2 J=J (.ptr Z.next 0):=fun J=>Ez t2 rfl
   have m3:∀J:V->AH,E0 e' 3 J=J (.bool (Fh b6 [BS.mk 1 41] l6 er6).1):=fun J=>Ez t3 rfl
   refine⟨Z8,?_,p8,(f03.trans f37 (fun b hb e=>by omega)).trans f8 (fun b hb e=>by omega)⟩
   unfold Si
   simp -implicitDefEqProofs only [↓rP,rA,AD,AE,AB,↓e0,↓g1,↓e2,↓s3,↓g4,↓s5,↓g6,↓s7,↓gd,↓m2,↓m3,↓r8]
   rfl
end
def Jb (l:List Nat):List V:=l.map fun c => .int .u8 (AA c)
def CT.c (x:CT) (v:V):List V:=[.str (Cj x.name),.int .i64 (AA x.type),.bool x.opt,.bool x.has,.int .i64 (AA x.dk),.int .i64 x.dn,v,.nils,.int .i64 (AA 0),.nils,.int .i64 (AA x.group)]
def kK (l:List Jq):List V:=l.flatMap Jq.c
def TP:List CT->List V->List V
 | x::xs,v::vs=>x.c v++TP xs vs
 | _,_=>[]
theorem cX (l m:List Jq):kK (l++m)=kK l++kK m:=List.flatMap_append
theorem Uw:∀(xs:List CT) (vs:List V) (x:CT) (v:V),vs.length=xs.length->TP (xs++[x]) (vs++[v])=TP xs vs++x.c v
 | [],[],x,v,_=>by simp[TP]
 | y::xs,w::vs,x,v,h=>by
  have ih:=Uw xs vs x v (by simpa using h)
  show y.c w++TP (xs++[x]) (vs++[v])=(y.c w++TP xs vs)++_
  rw[ih,DD]
 | [],_::_,_,_,h=>by simp at h
 | _::_,[],_,_,h=>by simp at h
abbrev FV:=V × List V
def NF (f:FV) (b:Nat):Prop:=AS f.1 b\/∃v,v∈f.2/\AS v b
def eH (Z:H) (xs:List CT) (vs:List V):Prop:=vs.length=xs.length/\∀(k:Nat) (x:CT) (v:V),xs[k]? = some x->vs[k]? = some v->GA Z 1 x.db.length v (Jb x.db)
structure Nq (Z:H) (nb:Nat) (nd:AL) (iv:V) (fv:FV):Prop where
 a:DZ Z nb (nd.c iv fv.1)
 i:E6 Z 3 nd.items.length iv (kK nd.items)
 f:E6 Z 11 nd.fields.length fv.1 (TP nd.fields fv.2)
 g:eH Z nd.fields fv.2
 ni:¬AS iv nb
 nf:¬NF fv nb
 d:∀b,AS iv b->¬NF fv b
 gd:∀v,v∈fv.2->∀b,AS v b->¬AS fv.1 b
structure Ap (pb:Nat) (lv:V) (nb:Nat) (iv:V) (fv:FV):Prop where
 x:nb≠pb
 l:¬AS lv nb
 i:∀b,AS iv b->b≠pb/\¬AS lv b
 f:∀b,NF fv b->b≠pb/\¬AS lv b
theorem eH.fr {Z Z':H} {xs:List CT} {vs:List V} {S:Nat->Prop} (h:eH Z xs vs) (f:Fr S Z Z') (ht:Ci Z) (hn:∀v,v∈vs->∀b,AS v b->¬S b):eH Z' xs vs:=
 ⟨h.1,fun k x v hx hv=>(h.2 k x v hx hv).fr f ht (hn v (D5 hv))⟩
theorem eH.lt {Z:H} {xs:List CT} {vs:List V} (h:eH Z xs vs) (ht:Ci Z) {v:V} (hv:v∈vs) {b:Nat} (hb:AS v b):b<Z.next:=by
 obtain⟨k,hk⟩:=TS.1 hv
 have hl:k<xs.length:=by
  rcases Ad k xs.length with h'|h'
  ·exact h'
  ·rw[Af (by rw[h.1];exact h')]at hk;cases hk
 exact(h.2 k _ v (AY hl) hk).lt ht hb
section
variable {Z Z':H} {nb:Nat} {nd:AL} {iv:V} {fv:FV} {pb:Nat} {lv:V}
theorem Nq.fr {S:Nat->Prop} (h:Nq Z nb nd iv fv) (f:Fr S Z Z') (ht:Ci Z) (h1:¬S nb) (h2:∀b,AS iv b->¬S b) (h3:∀b,NF fv b->¬S b):Nq Z' nb nd iv fv:=
 ⟨f.at_ h.a ht h1,h.i.fr f ht h2,h.f.fr f ht (fun b hb=>h3 b (.inl hb)),h.g.fr f ht (fun v hv b hb=>h3 b (.inr ⟨v,hv,hb⟩)),h.ni,h.nf,h.d,h.gd⟩
theorem Nq.frx (h:Nq Z nb nd iv fv) (f:Fr (fun k=>k=pb) Z Z') (ht:Ci Z) (ap:Ap pb lv nb iv fv):Nq Z' nb nd iv fv:=
 h.fr f ht ap.x (fun b hb=>(ap.i b hb).1) (fun b hb=>(ap.f b hb).1)
theorem Nq.lt_i (h:Nq Z nb nd iv fv) (ht:Ci Z) {b:Nat} (hb:AS iv b):b<Z.next:=h.i.lt ht hb
theorem Nq.lt_f (h:Nq Z nb nd iv fv) (ht:Ci Z) {b:Nat} (hb:NF fv b):b<Z.next:=by
 rcases hb with hb|⟨v,hv,hb⟩
 ·exact h.f.lt ht hb
 ·exact h.g.lt ht hv hb
theorem Nq.set (h:Nq Z nb nd iv fv) (ht:Ci Z) {off:Nat} {y:V} (nd':AL) (hy:y.cells=[y]/\y.one=true) (ho:off<16) (hc:F0 (nd.c iv fv.1) off [y]=nd'.c iv fv.1) (h1:nd'.items=nd.items) (h2:nd'.fields=nd.fields) :
    ∃Z',(∀J:H->AH,Dk 1 nb off y Z J=J Z')/\Fr (fun k=>k=nb) Z Z'/\Nq Z' nb nd' iv fv:=by
  obtain⟨Z',g,a,f⟩:=MX (n:=1) (o:=off) (v:=y) (l':=nd'.c iv fv.1) ht h.a (by
    rw[hy.1]
    simp only[AM,A0,B8,CS,hy.2,Be,B2,EU,CQ,Ai,Nat.add_eq]
    show off+1<=16
    omega) (by rw[hy.1];exact hc)
  exact⟨Z',g,f,a,by rw[h1];exact h.i.fr f ht (fun b hb e=>h.ni (e ▸ hb)),by rw[h2];exact h.f.fr f ht (fun b hb e=>h.nf (e ▸ .inl hb)),by rw[h2];exact h.g.fr f ht (fun v hv b hb e=>h.nf (e ▸ .inr ⟨v,hv,hb⟩)),h.ni,h.nf,h.d,h.gd⟩
end
abbrev IS:=List Jq × Bool × Nat
def Eh (s:IS) (l:List A4) (er:Er):Bool × IS × List A4 × Er:=
 match (match decide (0<s.1.length) && !s.2.1 with | true=>CE (BS.mk 3 3026478) l | false=>(false,l))with
 | (true,l1)=>(true,(s.1,true,s.1.length),l1,er)
 | (false,l1)=>match ED l1 er with
  | (false,_,l2,er2)=>(false,s,l2,er2)
  | (true,x,l2,er2)=>(true,(s.1++[x],s.2.1,s.2.2),l2,er2)
def qQ (s:IS) (l:List A4) (er:Er):Bool × IS × List A4 × Er:=match Aj [BS.mk 1 125] l er with
 | (b,l1,er1)=>(b,(s.1,s.2.1,match s.2.1 with | true=>s.2.2 | false=>s.1.length),l1,er1)
def E8:Nat->IS->List A4->Er->Bool × IS × List A4 × Er
 | 0,s,l,er=>(false,s,l,FH er 0 5)
 | n+1,s,l,er=>match Eh s l er with
  | (false,s1,l1,er1)=>(false,s1,l1,er1)
  | (true,s1,l1,er1)=>match CE (BS.mk 1 44) l1 with
   | (true,l2)=>E8 n s1 l2 er1
   | (false,l2)=>qQ s1 l2 er1
def E7 (s:IS) (l:List A4) (er:Er):Bool × IS × List A4 × Er:=match Aj [BS.mk 1 123] l er with
 | (false,l1,er1)=>(false,s,l1,er1)
 | (true,l1,er1)=>E8 9001 s l1 er1
def AL.is (x:AL):IS:=(x.items,x.more,x.root)
def AL.wi (x:AL) (s:IS):AL:=⟨x.kind,x.name,x.mHas,x.mNum,x.mMode,x.con,s.1,x.fields,s.2.2,s.2.1,x.of_⟩
structure Hm (Z Z':H) (pb:Nat) (lv:V) (ts l':List A4) (R:Rp) (nb:Nat) (nd':AL) (iv iv':V) (fv:FV):Prop where
 p:Ps Z' pb lv ts l' R
 q:Nq Z' nb nd' iv' fv
 ap:Ap pb lv nb iv' fv
 m:∀b,AS iv' b->AS iv b\/Z.next<=b
 f:Fr (fun b=>b=pb\/b=nb\/AS iv b) Z Z'
theorem Hm.trans {Z Z1 Z2:H} {pb:Nat} {lv:V} {ts l1 l2:List A4} {R1 R2:Rp} {nb:Nat} {nd1 nd2:AL} {iv iv1 iv2:V} {fv:FV} (h:Hm Z Z1 pb lv ts l1 R1 nb nd1 iv iv1 fv) (k:Hm Z1 Z2 pb lv ts l2 R2 nb nd2 iv1 iv2 fv):Hm Z Z2 pb lv ts l2 R2 nb nd2 iv iv2 fv:=by
 have le:=h.f.le
 refine⟨k.p,k.q,k.ap,fun b hb=>(k.m b hb).elim (h.m b) (fun e => .inr (by omega)),h.f.trans k.f fun b hb e=>?_⟩
 rcases e with e|e|e
 ·exact .inl e
 ·exact .inr (.inl e)
 ·exact(h.m b e).elim (fun h => .inr (.inr h)) (fun h=>by omega)
theorem Hm.go {Z Z1:H} {pb:Nat} {lv:V} {ts l1:List A4} {R1:Rp} {nb:Nat} {nd:AL} {iv:V} {fv:FV} (ht:Ci Z) (q:Nq Z nb nd iv fv) (ap:Ap pb lv nb iv fv) (p:Ps Z1 pb lv ts l1 R1) (f:Fr (fun k=>k=pb) Z Z1):Hm Z Z1 pb lv ts l1 R1 nb nd iv iv fv:=
 ⟨p,q.frx f ht ap,ap,fun _ h => .inl h,f.mono fun _ _ h => .inl h⟩
theorem Hm.own {Z Z1:H} {pb:Nat} {lv:V} {ts l:List A4} {R:Rp} {nb:Nat} {nd1:AL} {iv:V} {fv:FV} (h:Ps Z pb lv ts l R) (ap:Ap pb lv nb iv fv) (q:Nq Z1 nb nd1 iv fv) (f:Fr (fun k=>k=nb) Z Z1):Hm Z Z1 pb lv ts l R nb nd1 iv iv fv:=
 ⟨h.fr f (fun e=>ap.x e.symm) (fun b hb e=>ap.l (e ▸ hb)),q,ap,fun _ h => .inl h,f.mono fun _ _ h => .inr (.inl h)⟩
def Oj (F:List V->H->AH):Prop:=∀{Z:H} {pb:Nat} {lv:V} {ts l:List A4} {R:Rp} {nb:Nat} {nd:AL} {iv:V} {fv:FV},Ps Z pb lv ts l R->Nq Z nb nd iv fv->Ap pb lv nb iv fv->nd.items=[] ->
 ∃iv' Z',F [.ptr pb 0,.ptr nb 0] Z=some (.bool (E7 nd.is l R.er).1,Z')/\Hm Z Z' pb lv ts (E7 nd.is l R.er).2.2.1 (R.e (E7 nd.is l R.er).2.2.2) nb (nd.wi (E7 nd.is l R.er).2.1) iv iv' fv
section
variable {E:EB} {D:BB} {N:Nat}
theorem Tj (hI:Ft (D 38)) (hT:NP (D 69)) {Z:H} {pb:Nat} {lv:V} {ts l:List A4} {R:Rp} {nb:Nat} {nd:AL} {iv:V} {fv:FV}
  (h:Ps Z pb lv ts l R) (q:Nq Z nb nd iv fv) (ap:Ap pb lv nb iv fv) (hl:nd.items.length+l.length<=9000) :
  ∃iv' Z',(∀K3,Sk E D (A2 E D) K3 pb 0 nb 0 Z=(match (Eh nd.is l R.er).1 with | true=>K3 pb 0 nb 0 Z' | false=>some (.bool false,Z'))) /\
   Hm Z Z' pb lv ts (Eh nd.is l R.er).2.2.1 (R.e (Eh nd.is l R.er).2.2.2) nb (nd.wi (Eh nd.is l R.er).2.1) iv iv' fv /\
   (Eh nd.is l R.er).2.2.1.length<=l.length/\((Eh nd.is l R.er).1=true->(Eh nd.is l R.er).2.1.1.length+(Eh nd.is l R.er).2.2.1.length<=9000):=by
 have qa:=q.a
 unfold AL.c at qa
 have sl:∀J:Nat->AH,BG iv J=J nd.items.length:=fun J=>q.i.slen
 obtain⟨c,l1,Z1,hc,k1,p1,f1,hl1⟩:∃c l1 Z1,(match decide (0<nd.items.length) && !nd.more with|true=>CE (BS.mk 3 3026478) l|false=>(false,l))=(c,l1) /\
   (∀(k10:Bool->H->AH),AI (decide (0<nd.items.length) && !nd.more) (AV (D 38 [.ptr pb 0,.str (BS.mk 3 3026478)] Z) fun u31 s32=>AT u31 fun x33=>k10 x33 s32) (k10 false Z)=k10 c Z1)/\Ps Z1 pb lv ts l1 R/\Fr (fun k=>k=pb) Z Z1/\l1.length<=l.length:=by
  cases hq:decide (0<nd.items.length) && !nd.more with
  | false=>exact⟨false,l,Z,rfl,fun k=>rfl,h,Fr.refl h.ht,AG _⟩
  | true=>
   obtain⟨Z1,g1,p1,f1⟩:=hI (BS.mk 3 3026478) h
   refine⟨(CE (BS.mk 3 3026478) l).1,(CE (BS.mk 3 3026478) l).2,Z1,rfl,fun k=>?_,p1,f1,Cs _ _⟩
   rw[De,g1];rfl
 have hs:Eh nd.is l R.er=(match (c,l1)with
  | (true,l1)=>(true,(nd.items,true,nd.items.length),l1,R.er)
  | (false,l1)=>match ED l1 R.er with
   | (false,_,l2,er2)=>(false,nd.is,l2,er2)
   | (true,x,l2,er2)=>(true,(nd.items++[x],nd.more,nd.root),l2,er2)):=by
  rw[<-hc];rfl
 rw[hs]
 have s1:=Hm.go h.ht q ap p1 f1
 have q1a:=s1.q.a
 unfold AL.c at q1a
 have key:∀K3,Sk E D (A2 E D) K3 pb 0 nb 0 Z=AI c
   (Bm E Z1 nb 11 fun u9=>BG u9 fun n10=>Dk 1 nb 14 (.bool true) Z1 fun s11=>Dk 1 nb 13 (.int .i64 (AA n10)) s11 fun s12=>K3 pb 0 nb 0 s12)
   (AV (D 69 [.ptr pb 0] Z1) fun u13 s14=>Cw u13 fun l15=>AP l15 fun x16 l17=>B7 x16 fun l18=>EY l18 fun x21 l20=>BV .i64 l20 fun x24 l23=>DQ l23 fun x27 l26=>AZ l26 (DQ l17 fun x30 l29=>AZ l29 (
    Dk 3 (H.next s14) 0 (V.agg [.str x21,.int .i64 x24,.bool x27]) (CO s14 (.cells [.str ⟨0,0⟩,.int .i64 (AA 0),.bool false])) fun s32=>
    AI (not x30) (some ((V.bool false),s32)) (
    Ee (A2 E D Ms KW [(0,.ptr pb 0),(1,.ptr nb 0),(5,.ptr (H.next s14) 0)] s32) fun e33 s34=>E0 e33 0 fun u35=>Br u35 fun b36 o37=>E0 e33 1 fun u38=>Br u38 fun b39 o40=>K3 b36 o37 b39 o40 s34)))):=by
  intro K3
  rw[<-k1 fun c Z1=>AI c
   (Bm E Z1 nb 11 fun u9=>BG u9 fun n10=>Dk 1 nb 14 (.bool true) Z1 fun s11=>Dk 1 nb 13 (.int .i64 (AA n10)) s11 fun s12=>K3 pb 0 nb 0 s12)
   (AV (D 69 [.ptr pb 0] Z1) fun u13 s14=>Cw u13 fun l15=>AP l15 fun x16 l17=>B7 x16 fun l18=>EY l18 fun x21 l20=>BV .i64 l20 fun x24 l23=>DQ l23 fun x27 l26=>AZ l26 (DQ l17 fun x30 l29=>AZ l29 (
    Dk 3 (H.next s14) 0 (V.agg [.str x21,.int .i64 x24,.bool x27]) (CO s14 (.cells [.str ⟨0,0⟩,.int .i64 (AA 0),.bool false])) fun s32=>
    AI (not x30) (some ((V.bool false),s32)) (
    Ee (A2 E D Ms KW [(0,.ptr pb 0),(1,.ptr nb 0),(5,.ptr (H.next s14) 0)] s32) fun e33 s34=>E0 e33 0 fun u35=>Br u35 fun b36 o37=>E0 e33 1 fun u38=>Br u38 fun b39 o40=>K3 b36 o37 b39 o40 s34))))]
  unfold Sk
  cases h0:decide (0<nd.items.length)<;>cases hm:nd.more<;>(rw[hm]at qa;simp -implicitDefEqProofs only [↓rP,rA,AD,AE,AB,↓Av qa,↓sl,h0,hm])<;>rfl
 cases c with
 | true=>
  obtain⟨Z2,g2,f2,q2⟩:=s1.q.set (off:=14) (y := .bool true) p1.ht (nd.wi (nd.items,true,nd.root)) ⟨rfl,rfl⟩ (by decide) rfl rfl rfl
  obtain⟨Z3,g3,f3,q3⟩:=q2.set (off:=13) (y := .int .i64 (AA nd.items.length)) f2.tidy (nd.wi (nd.items,true,nd.items.length)) ⟨rfl,rfl⟩ (by decide) rfl rfl rfl
  have s3:=s1.trans (Hm.own p1 ap q3 (f2.trans f3 (fun _ _ h=>h)))
  refine⟨iv,Z3,fun K3=>?_,s3,hl1,fun _=>by simp only[];omega⟩
  have sl1:∀J:Nat->AH,BG iv J=J nd.items.length:=fun J=>s1.q.i.slen
  rw[key,De]
  simp -implicitDefEqProofs only [↓rP,rA,AD,AE,AB,↓Av q1a,↓sl1,↓g2,↓g3]
 | false=>
  obtain⟨Z2,g2,p2,f2⟩:=hT p1
  have s2:=s1.trans (Hm.go p1.ht s1.q ap p2 f2)
  have hle:=SN l1 R.er
  have hlt:∀x l' er',ED l1 R.er=(true,x,l',er')->l'.length+1<=l1.length:=fun x l' er' e=>YX p1 e
  simp only[]at ⊢
  generalize ED l1 R.er=i2 at g2 p2 s2 hle hlt ⊢
  obtain⟨b2,x,l2,er2⟩:=i2
  obtain⟨Z3,e3,f3,a3,n3⟩:=Nx p2.ht [.str ⟨0,0⟩,.int .i64 (AA 0),.bool false]
  obtain⟨Z4,s4,a4,f4⟩:=MX (n:=3) (o:=0) (v := .agg x.c) (l':=x.c) f3.tidy a3 rfl rfl
  have f24:Fr BQ Z2 Z4:=f3.trans f4 (fun b hb e=>by omega)
  have p4:=p2.fr0 f24
  have q4:=s2.q.fr f24 p2.ht (fun h=>h) (fun _ _ h=>h) (fun _ _ h=>h)
  have s24:Hm Z2 Z4 pb lv ts l2 (R.e er2) nb nd iv iv fv:=⟨p4,q4,ap,fun _ h => .inl h,f24.mono fun _ _ h=>h.elim⟩
  unfold Jq.c at g2 s4 a4
  cases b2 with
  | false=>
   refine⟨iv,Z4,fun K3=>?_,s2.trans s24,AN hle hl1,fun h=>by cases h⟩
   rw[key,DG]
   simp -implicitDefEqProofs only [↓rP,rA,AD,AE,AB,↓g2,↓e3,↓s4]
  | true=>
   have q4a:=q4.a
   unfold AL.c at q4a
   have lb:=s2.q.a.lt p2.ht
   have hlt:=hlt x l2 er2 rfl
   have li:∀b,AS iv b->b<Z2.next:=fun b hb=>s2.q.lt_i p2.ht hb
   obtain⟨e',u,Z7,g7,t0,t1,a7,d7,m7,n7,f7⟩:=WA (E:=E) (D:=D) (p0 := .ptr pb 0) (v:=iv) p4.ht q4a rfl a4 q4.i (by omega) (by omega) q4.ni (fun h=>by have:=li _ h;omega)
   have ll:=p4.llt
   have lx:=p4.lt
   have q7:Nq Z7 nb (nd.wi (nd.items++[x],nd.more,nd.root)) u fv:=⟨a7,by
     have e1:(nd.items++[x]).length=nd.items.length+1:=by simp
     show E6 Z7 3 (nd.items++[x]).length u (kK (nd.items++[x]))
     rw[e1,cX];exact d7,
    q4.f.fr f7 p4.ht (fun b hb e=>by
     rcases e with e|e
     ·exact q4.nf (e ▸ .inl hb)
     ·exact q4.d b e (.inl hb)),
    q4.g.fr f7 p4.ht (fun v hv b hb e=>by
     rcases e with e|e
     ·exact q4.nf (e ▸ .inr ⟨v,hv,hb⟩)
     ·exact q4.d b e (.inr ⟨v,hv,hb⟩)),n7,q4.nf,fun b hb' hf=>by
     rcases m7 b hb' with h|h
     ·exact q4.d b h hf
     ·have:=q4.lt_f p4.ht hf;omega,q4.gd⟩
   have s47:Hm Z4 Z7 pb lv ts l2 (R.e er2) nb (nd.wi (nd.items++[x],nd.more,nd.root)) iv u fv:=⟨p4.fr f7 (fun e=>by
     rcases e with e|e
     ·exact ap.x e.symm
     ·exact(ap.i _ e).1 rfl) (fun b hb e=>by
     rcases e with e|e
     ·exact ap.l (e ▸ hb)
     ·exact(ap.i _ e).2 hb),q7,⟨ap.x,ap.l,fun b hb=>(m7 b hb).elim (ap.i b) (fun h=>⟨by omega,fun hn=>by have:=ll b hn;omega⟩),ap.f⟩,m7,f7.mono fun _ _ h => .inr h⟩
   refine⟨u,Z7,fun K3=>?_,(s2.trans s24).trans s47,AN hle hl1,fun _=>?_⟩
   ·have gd:∀J:Bt->H->AH,Ee (A2 E D Ms KW [(0,.ptr pb 0),(1,.ptr nb 0),(5,.ptr Z2.next 0)] Z4) J=J e' Z7:=fun J=>by rw[g7];rfl
    have m0:∀J:V->AH,E0 e' 0 J=J (.ptr pb 0):=fun J=>Ez t0 rfl
    have m1:∀J:V->AH,E0 e' 1 J=J (.ptr nb 0):=fun J=>Ez t1 rfl
    rw[key,DG]
    simp -implicitDefEqProofs only [↓rP,rA,AD,AE,AB,↓g2,↓e3,↓s4,↓gd,↓m0,↓m1]
   ·simp only[Aw,AM,A0]at hlt ⊢
    omega
theorem YT (hI:Ft (D 38)) (hW:Di (D 16)) (hT:NP (D 69)) (hN:9002<N):Oj (nq E D (A2 E D) N):=by
 have loop:∀(n k:Nat) {Z:H} {pb:Nat} {lv:V} {ts l:List A4} {R:Rp} {nb:Nat} {nd:AL} {iv:V} {fv:FV},Ps Z pb lv ts l R->Nq Z nb nd iv fv->Ap pb lv nb iv fv->nd.items.length+l.length<=9000->l.length<n->l.length<k ->
   ∃iv' Z',S8 E D (A2 E D) N k pb 0 nb 0 Z=some (.bool (E8 n nd.is l R.er).1,Z')/\Hm Z Z' pb lv ts (E8 n nd.is l R.er).2.2.1 (R.e (E8 n nd.is l R.er).2.2.2) nb (nd.wi (E8 n nd.is l R.er).2.1) iv iv' fv:=by
  intro n
  induction n with
  | zero=>intro k Z pb lv ts l R nb nd iv fv h q ap hl hn;omega
  | succ n ih=>
   intro k Z pb lv ts l R nb nd iv fv h q ap hl hn hk
   obtain⟨k,rfl⟩:∃j,k=j+1:=⟨k-1,by omega⟩
   obtain⟨iv1,Z1,g1,s1,hl1,hi1⟩:=Tj (E:=E) (D:=D) hI hT h q ap hl
   unfold E8
   generalize Eh nd.is l R.er=i1 at g1 s1 hl1 hi1 ⊢
   obtain⟨b1,z1,l1,er1⟩:=i1
   cases b1 with
   | false=>exact⟨iv1,Z1,g1 _,s1⟩
   | true=>
    simp only[]at s1 hl1 hi1 ⊢
    have hi1:=hi1 trivial
    obtain⟨Z2,g2,p2,f2⟩:=hI (BS.mk 1 44) s1.p
    have s2:=s1.trans (Hm.go s1.p.ht s1.q s1.ap p2 f2)
    have hlt:∀l',CE (BS.mk 1 44) l1=(true,l')->l'.length+1<=l1.length:=fun l' e=>s1.p.isS_lt e
    generalize CE (BS.mk 1 44) l1=i2 at g2 p2 s2 hlt ⊢
    obtain⟨b2,l2⟩:=i2
    cases b2 with
    | true=>
     have hlt:=hlt l2 rfl
     simp only[]at g2 p2 s2 hlt ⊢
     obtain⟨iv',Z',g',s'⟩:=ih k (nd:=nd.wi z1) p2 s2.q s2.ap (by show z1.1.length+l2.length<=9000;omega) (by omega) (by omega)
     refine⟨iv',Z',?_,s2.trans s'⟩
     refine(g1 _).trans ?_
     show QI E D (A2 E D) _ (S8 E D (A2 E D) N k) pb 0 nb 0 Z1=_
     unfold QI
     simp -implicitDefEqProofs only [↓rP,rS,↓g2]
     exact g'
    | false=>
     simp only[]at g2 p2 s2 ⊢
     have qa:=s2.q.a
     unfold AL.c AL.wi at qa
     simp only[]at qa
     have sl:∀J:Nat->AH,BG iv1 J=J z1.1.length:=fun J=>s2.q.i.slen
     obtain⟨Z3,s3,k3⟩:∃Z3,Hm Z Z3 pb lv ts l2 (R.e er1) nb (nd.wi (z1.1,z1.2.1,match z1.2.1 with|true=>z1.2.2|false=>z1.1.length)) iv iv1 fv/\∀K4,QJ E D (A2 E D) K4 pb 0 nb 0 Z2=K4 pb 0 Z3:=by
      cases hm:z1.2.1 with
      | true=>
       refine⟨Z2,?_,fun K4=>?_⟩
       ·have e:z1=(z1.1,true,z1.2.2):=by rw[<-hm]
        have s2':=s2
        rw[e]at s2'
        exact s2'
       ·rw[hm]at qa
        unfold QJ
        simp -implicitDefEqProofs only [↓rP,rA,AD,AE,AB,↓Av qa]
      | false=>
       obtain⟨Z3,g3,f3,q3⟩:=s2.q.set (off:=13) (y := .int .i64 (AA z1.1.length)) p2.ht (nd.wi (z1.1,z1.2.1,z1.1.length)) ⟨rfl,rfl⟩ (by decide) rfl rfl rfl
       rw[hm]at q3 qa
       refine⟨Z3,s2.trans (Hm.own p2 s2.ap q3 f3),fun K4=>?_⟩
       unfold QJ
       simp -implicitDefEqProofs only [↓rP,rA,AD,AE,AB,↓Av qa,↓sl,↓g3]
     obtain⟨Z5,Z6,e5,g6,p6,f6⟩:=Dh hW s3.p [BS.mk 1 125] (by decide)
     have e5:CO Z3 (.cells [.str (BS.mk 1 125)])=Z5:=e5
     have g6:D 16 [.ptr pb 0,.sl Z3.next 0 1 (.ex 1)] Z5=some (.bool (Aj [BS.mk 1 125] l2 er1).1,Z6):=g6
     have p6:Ps Z6 pb lv ts (Aj [BS.mk 1 125] l2 er1).2.1 (R.e (Aj [BS.mk 1 125] l2 er1).2.2):=p6
     have s6:=s3.trans (Hm.go s3.p.ht s3.q s3.ap p6 f6)
     refine⟨iv1,Z6,?_,s6⟩
     refine(g1 _).trans ?_
     show QI E D (A2 E D) (QJ E D (A2 E D) (ZJ E D (A2 E D))) _ pb 0 nb 0 Z1=_
     unfold QI
     simp -implicitDefEqProofs only [↓rP,rS,↓g2,k3]
     unfold ZJ
     simp -implicitDefEqProofs only [↓rP,rS,↓e5,↓g6]
     rfl
 intro Z pb lv ts l R nb nd iv fv h q ap h0
 obtain⟨Z1,Z2,e1,g2,p2,f2⟩:=Dh hW h [BS.mk 1 123] (by decide)
 have e1:CO Z (.cells [.str (BS.mk 1 123)])=Z1:=e1
 have g2:D 16 [.ptr pb 0,.sl Z.next 0 1 (.ex 1)] Z1=some (.bool (Aj [BS.mk 1 123] l R.er).1,Z2):=g2
 have hle:=Cm [BS.mk 1 123] l R.er
 have s2:=Hm.go h.ht q ap p2 f2
 have hfew:=h.few
 show ∃iv' Z',Sm E D (A2 E D) (S8 E D (A2 E D) N N) pb 0 nb 0 Z=_/\_
 unfold E7
 generalize Aj [BS.mk 1 123] l R.er=i2 at g2 p2 s2 hle ⊢
 obtain⟨b2,l2,er2⟩:=i2
 simp only[]at g2 p2 s2 hle ⊢
 cases b2 with
 | false=>
  refine⟨iv,Z2,?_,s2⟩
  unfold Sm
  simp -implicitDefEqProofs only [↓rP,rS,↓e1,↓g2]
 | true=>
  obtain⟨iv',Z',g',s'⟩:=loop 9001 N p2 s2.q ap (by rw[h0];simp only[A0];omega) (by omega) (by omega)
  refine⟨iv',Z',?_,s2.trans s'⟩
  unfold Sm
  simp -implicitDefEqProofs only [↓rP,rS,↓e1,↓g2]
  exact g'
end
def I4 (c:Nat):Nat:=match decide (c<58)with
 | true=>c-48
 | false=>c-55
def Nw:List Nat->List Nat
 | a::b::r=>(I4 a*16+I4 b)::Nw r
 | _=>[]
theorem FT {c:Nat} (h:DK c=true):(48<=c/\c<=57)\/(65<=c/\c<=70):=by
 unfold DK at h
 rw[Bg]at h
 rcases h with h|h
 ·exact .inl (Ll h)
 ·rw[AF]at h
  exact .inr ⟨of_decide_eq_true h.1,of_decide_eq_true h.2⟩
theorem R6 {w:List Nat} (hb:∀c∈w,c<256):PS (Cj w).toList=Jb w:=by
 rw[Kn hb]
 unfold PS Jb
 rw[List.map_map]
 refine List.map_congr_left fun c hc=>?_
 have:=hb c hc
 show V.int .u8 (AA (UInt8.ofNat c).toNat)=_
 rw[show (UInt8.ofNat c).toNat=c by simp;omega]
def QM (F:List V->H->AH):Prop:=∀(Z:H) (a b:Nat),Ci Z->DK a=true->DK b=true->∃Z',F [.str (Cj [a,b]),.int .i64 (AA 16),.int .i64 (AA 8)] Z=some (.tup [.int .u64 (AA (I4 a*16+I4 b)),.nili],Z')/\Fr BQ Z Z'
def RQ (F:List V->H->AH):Prop:=∀(Z:H) (a:Int),F [.int .u8 a] Z=some (.int .u8 (J4 .u8 a (AA 32)),Z)
def UD (F:List V->H->AH):Prop:=∀(Z:H) (w:List Nat),Ci Z->(∀c∈w,DK c=true)->w.length<=10000 ->
 ∃v Z',F [.str (Cj w)] Z=some (v,Z')/\GA Z' 1 (Nw w).length v (Jb (Nw w))/\(v = .nils\/∃b o k c,v = .sl b o k c)/\(∀b,AS v b->Z.next<=b)/\Fr BQ Z Z'
section
variable {E:EB} {D:BB} {W:AJ} {N:Nat}
theorem kC:RQ (uF E D W N):=fun _ _=>rfl
theorem UZ (hL:RQ (D 72)) {Z:H} {b:Nat} {cs:List V} {j c g:Nat} {s:BS} {op:Vo} (ha:DZ Z b cs) (hj:j<2) (hl:cs.length=2) (hc:X8 cs j=some (.int .u8 (AA c))) (hx:DK c=true) (hg:g<16) (R:Int->Bool->BS->Int->Int->Bool->Int->V->Int->Int->H->AH) :
  OY E D W (Zv E D W N) (Mp E D W N R) (Zu E D W N R) (AA 16) false s (AA 1152921504606846976) (AA 255) false (AA g) (.sl b 0 2 op) (AA 2) (AA j) Z =
   R (AA 16) false s (AA 1152921504606846976) (AA 255) false (AA (g*16+I4 c)) (.sl b 0 2 op) (AA 2) (AA (j+1)) Z:=by
 have rd:∀J:V->AH,Am 1 (.sl b 0 2 op) (AA j) (fun b o=>Bm E Z b o J)=J (.int .u8 (AA c)):=fun J=>by
  rw[Dy (show j<2 by omega)]
  show Bm E Z b (0+j*1) J=_
  rw[show 0+j*1=j by omega,Av ha]
  exact LV hc
 have j2:decide (j<2)=true:=decide_eq_true hj
 have aj:CJ .i64 (AA j) (AA 1)=AA (j+1):=Bw (by omega)
 have w16:B4 .u8 (AA 16)=AA 16:=rfl
 have fin:∀v,v<16->QG E D W (Mp E D W N R) (AA 16) false s (AA 1152921504606846976) (AA 255) false (AA g) (AA v) (.sl b 0 2 op) (AA 2) (AA j) Z =
   R (AA 16) false s (AA 1152921504606846976) (AA 255) false (AA (g*16+v)) (.sl b 0 2 op) (AA 2) (AA (j+1)) Z:=by
  intro v hv
  have m1:∀g<16,Te .u64 (AA g) (B4 .u64 (AA 16))=AA (g*16):=by decide +kernel
  have m2:∀g<16,∀v<16,CJ .u64 (AA (g*16)) (B4 .u64 (AA v))=AA (g*16+v):=by decide +kernel
  have c1:decide (16<=v)=false:=decide_eq_false (by omega)
  have c2:decide (1152921504606846976<=g)=false:=decide_eq_false (by omega)
  have c3:decide (g*16+v<g*16)=false:=decide_eq_false (by omega)
  have c4:decide (255<g*16+v)=false:=decide_eq_false (by omega)
  unfold QG
  simp -implicitDefEqProofs only [↓rP,rA,AD,AE,AB,w16,m1 g hg,m2 g hg v hv,c1,c2,c3,c4]
  show VB E D W R _ _ _ _ _ _ _ _ _ _ Z=_
  unfold VB
  rw[aj]
 have hlo:=hL
 show OY E D W _ _ (QG E D W (Mp E D W N R)) _ _ _ _ _ _ _ _ _ _ Z=_
 generalize QG E D W (Mp E D W N R)=K7 at fin ⊢
 generalize Mp E D W N R=K6
 have nc:D0 (AA c) (AA 95)=false:=by
  rw[Ux]
  rcases FT hx with h|h<;>exact decide_eq_false (by omega)
 unfold OY
 rcases FT hx with h|h
 ·have d1:decide (48<=c)=true:=decide_eq_true h.1
  have d2:decide (c<=57)=true:=decide_eq_true h.2
  have sb:∀c<58,48<=c->JQ .u8 (AA c) (AA 48)=AA (c-48):=by decide +kernel
  have e:I4 c=c-48:=by unfold I4;rw[decide_eq_true (show c<58 by omega)]
  rw[e]
  simp -implicitDefEqProofs only [↓rP,rA,AD,AE,AB,j2,↓rd,nc,d1,d2,sb c (by omega) h.1]
  exact fin _ (by omega)
 ·have d1:decide (48<=c)=true:=decide_eq_true (by omega)
  have d2:decide (c<=57)=false:=decide_eq_false (by omega)
  have l1:∀c<71,65<=c->Ip (AA 97) (J4 .u8 (AA c) (AA 32))=true/\Ip (J4 .u8 (AA c) (AA 32)) (AA 122)=true/\CJ .u8 (JQ .u8 (J4 .u8 (AA c) (AA 32)) (AA 97)) (AA 10)=AA (c-55):=by decide +kernel
  obtain⟨l1,l2,l3⟩:=l1 c (by omega) h.1
  have e:I4 c=c-55:=by unfold I4;rw[decide_eq_false (show ¬c<58 by omega)]
  have g1:=hL Z (AA c)
  rw[e]
  simp -implicitDefEqProofs only [↓rP,rA,AD,AE,AB,j2,↓rd,nc,d1,d2,↓g1,l1,l2,l3]
  exact fin _ (by omega)
theorem ph (hL:RQ (D 72)) (hN:10<N):QM (nk E D W N):=by
 intro Z a b ht ha hb
 have ba:a<256:=by rcases FT ha with h | h<;>omega
 have bb:b<256:=by rcases FT hb with h | h<;>omega
 have bw:∀c∈[a,b],c<256:=by
  intro c hc
  simp only[BF,Ey,or_false]at hc
  rcases hc with rfl|rfl<;>assumption
 obtain⟨Z1,e1,f1,a1,n1⟩:=Nx ht (Jb [a,b])
 have ei:=R6 bw
 have hxa:I4 a<16:=by
  unfold I4
  rcases FT ha with h|h
  ·rw[decide_eq_true (show a<58 by omega)];simp only[];omega
  ·rw[decide_eq_false (show ¬a<58 by omega)];simp only[];omega
 have hlen:(Cj [a,b]).len=2:=by rw[Fo];rfl
 refine⟨Z1,?_,f1⟩
 have nz:BS.beq (Cj [a,b]) (BS.mk 0 0)=false:=by
  unfold BS.beq
  rw[hlen];rfl
 have w8:B4 .u64 (AA 8)=AA 8:=rfl
 have s8:JQ .u64 (G3 .u64 (AA 1) 8) (AA 1)=AA 255:=by decide +kernel
 show VF E D W (VE E D W (VD E D W (VC E D W (Vf E D W N N)))) (Cj [a,b]) (AA 16) (AA 8) Z=_
 obtain⟨M,rfl⟩:∃M,N=M+1+1+1:=⟨N-3,by omega⟩
 have k1:=fun(op:Vo) R=>UZ (E:=E) (W:=W) (N:=M+1+1+1) (j:=0) (c:=a) (g:=0) (s:=Cj [a,b]) (op:=op) hL a1 (by decide) rfl rfl ha (by decide) R
 have k2:=fun(op:Vo) R=>UZ (E:=E) (W:=W) (N:=M+1+1+1) (j:=1) (c:=b) (g:=I4 a) (s:=Cj [a,b]) (op:=op) hL a1 (by decide) rfl rfl hb hxa R
 have hl:∀op:Vo,Vf E D W (M+1+1+1) (M+1+1+1) (AA 16) false (Cj [a,b]) (AA 1152921504606846976) (AA 255) false (AA 0) (.sl Z.next 0 2 op) (AA 2) (AA 0) Z1=some (.tup [.int .u64 (AA (I4 a*16+I4 b)),.nili],Z1):=by
  intro op
  refine(k1 op _).trans ?_
  rw[show 0*16+I4 a=I4 a by omega]
  refine(k2 op _).trans ?_
  show OY E D W (ZH E D W) _ _ _ _ _ _ _ _ _ _ _ _ Z1=_
  unfold OY ZH
  simp -implicitDefEqProofs only [↓rP,rA,AD,AE,AB,show decide (1+1<2)=false from rfl]
 unfold VF VE VD VC
 simp -implicitDefEqProofs only [↓rP,rA,AD,AE,AB,nz,w8,NH,s8,hlen,ei,↓e1]
 exact hl _
end
theorem YY {a:Nat} (ha:DK a=true):I4 a<16:=by
 unfold I4
 rcases FT ha with h|h
 ·rw[decide_eq_true (show a<58 by omega)];simp only[];omega
 ·rw[decide_eq_false (show ¬a<58 by omega)];simp only[];omega
abbrev qY:=Nat × Int × List Nat
def JN (l:List A4) (er:Er):Bool × qY × List A4 × Er:=match CE (BS.mk 4 1163219540) l with
 | (true,l1)=>(true,(1,1,[]),l1,er)
 | (false,l1)=>match CE (BS.mk 5 297750249798) l1 with
  | (true,l2)=>(true,(1,0,[]),l2,er)
  | (false,l2)=>match CE (BS.mk 4 1280070990) l2 with
   | (true,l3)=>(true,(4,0,[]),l3,er)
   | (false,l3)=>match decide ((CF l).1=3)with
    | true=>match Ed l3 er with
     | (_,n,l4,er4)=>(true,(2,n,[]),l4,er4)
    | false=>match decide ((CF l).1=2)with
     | true=>(true,(3,0,(CF l).2.1),JE l3,er)
     | false=>match decide ((CF l).1=7)with
      | true=>(true,(6,0,(CF l).2.1),JE l3,er)
      | false=>match decide ((CF l).1=4)with
       | true=>(true,(5,0,Nw (CF l).2.1),JE l3,er)
       | false=>(false,(0,0,[]),l3,FH er (CF l).2.2 7)
def qY.c (x:qY) (v:V):List V:=[.int .i64 (AA x.1),.int .i64 x.2.1,v,.nils,.int .i64 (AA 0),.nils]
def wH (v:V):Prop:=v = .nils\/∃b o k c,v = .sl b o k c
def UB (F:List V->H->AH):Prop:=∀{Z:H} {pb:Nat} {lv:V} {ts l:List A4} {R:Rp},Ps Z pb lv ts l R ->
 ∃v Z',F [.ptr pb 0] Z=some (.tup [.agg ((JN l R.er).2.1.c v),.bool (JN l R.er).1],Z')/\Ps Z' pb lv ts (JN l R.er).2.2.1 (R.e (JN l R.er).2.2.2)/\GA Z' 1 (JN l R.er).2.1.2.2.length v (Jb (JN l R.er).2.1.2.2)/\wH v/\(∀b,AS v b->Z.next<=b)/\Fr (fun k=>k=pb) Z Z'
theorem GA.nil0 (Z:H):GA Z 1 0 .nils [] := .inl ⟨rfl,rfl,rfl⟩
section
variable {E:EB} {D:BB} {W:AJ} {N:Nat}
theorem xt (hI:QM (D 63)):QM (uD E D W N):=by
 intro Z a b ht ha hb
 obtain⟨Z1,g1,f1⟩:=hI Z a b ht ha hb
 refine⟨Z1,?_,f1⟩
 show ZF E D W (Cj [a,b]) (AA 16) (AA 8) Z=_
 unfold ZF
 simp -implicitDefEqProofs only [↓rP,rA,AD,AE,AB,↓g1]
 rfl
theorem j5 (hU:QM (D 82)) (hN:10001<N):UD (nZ E D W N):=by
  intro Z0 w ht0 hx hw
  have loop:∀(n m:Nat) (r:List Nat) (i k:Nat) (v:V) (acc:List Nat) (Z:H),r.length<n->r.length<m->KZ (Cj w) i r->(∀c∈r,DK c=true)->E6 Z 1 acc.length v (Jb acc)->acc.length+r.length<=10000->Fr BQ Z0 Z->(∀b,AS v b->Z0.next<=b) ->
      ∃u Z',Vd E D W N m (Cj w) v (AA i) Z=some (u,Z')/\E6 Z' 1 (acc++Nw r).length u (Jb (acc++Nw r))/\(∀b,AS u b->Z0.next<=b)/\Fr BQ Z0 Z':=by
    intro n
    induction n with
    | zero=>intro m r i k v acc Z h;omega
    | succ n ih=>
      intro m r i k v acc Z hn hm ha hr hd hl f0 hv
      obtain⟨m,rfl⟩:∃j,m=j+1:=⟨m-1,by omega⟩
      have hi:=ha.len
      have hle:=ha.le
      have ai:CJ .i64 (AA i) (AA 1)=AA (i+1):=Bw (by omega)
      have ai2:CJ .i64 (AA i) (AA 2)=AA (i+2):=Bw (by omega)
      show ∃u Z',QE E D W (U7 E D W) (Vd E D W N m) (Cj w) v (AA i) Z=_/\_
      match r,hn,hm,ha,hr,hl,hi with
      | [],hn,hm,ha,hr,hl,hi=>
        have d1:decide (i+1<(Cj w).len)=false:=decide_eq_false (by simp only[A0]at hi;omega)
        refine⟨v,Z,?_,by rw[show Nw []=[] from rfl,Eb];exact hd,hv,f0⟩
        unfold QE U7
        simp -implicitDefEqProofs only [↓rP,rA,AD,AE,AB,ai,d1]
      | [c],hn,hm,ha,hr,hl,hi=>
        have d1:decide (i+1<(Cj w).len)=false:=decide_eq_false (by simp only[AM,A0]at hi;omega)
        refine⟨v,Z,?_,by rw[show Nw [c]=[] from rfl,Eb];exact hd,hv,f0⟩
        unfold QE U7
        simp -implicitDefEqProofs only [↓rP,rA,AD,AE,AB,ai,d1]
      | a::b::r,hn,hm,ha,hr,hl,hi=>
        simp only[AM]at hi hn hm hl
        have d1:decide (i+1<(Cj w).len)=true:=decide_eq_true (by omega)
        have cut:=fun J=>ha.cut (k:=2) (by simp) J
        have cut:∀J:BS->AH,CW (Cj w) (some (.int .i64 (AA i))) (some (.int .i64 (AA (i+2)))) J=J (Cj [a,b]):=cut
        have xa:=hr a (by simp)
        have xb:=hr b (by simp)
        obtain⟨Z1,g1,f1⟩:=hU Z a b f0.tidy xa xb
        have hq:I4 a*16+I4 b<256:=by have:=YY xa;have:=YY xb;omega
        have wq:B4 .u8 (AA (I4 a*16+I4 b))=AA (I4 a*16+I4 b):=HG (show _<=255 by omega)
        obtain⟨Z2,e2,f2,a2,n2⟩:=Nx f1.tidy [.int .u8 (AA (I4 a*16+I4 b))]
        have f12:Fr BQ Z Z2:=f1.trans f2 (fun _ _ h=>h)
        have xs:GA Z2 1 1 (.sl Z1.next 0 1 (.ex 1)) [.int .u8 (AA (I4 a*16+I4 b))] := .inr ⟨_,_,_,_,rfl,a2,AG _,rfl⟩
        have d2:=hd.fr f12 f0.tidy (fun _ _ h=>h)
        obtain⟨u,Z3,g3,d3,m3,f3⟩:=Hs (E:=E) (bytes:=1) d2 f2.tidy xs rfl (by unfold Cn;simp only[AF,Ai];omega)
        have le12:=f12.le
        have le0:=f0.le
        have f03:Fr BQ Z0 Z3:=(f0.trans f12 (fun _ _ h=>h)).trans f3 (fun b hb e=>by have:=hv b e;omega)
        have hu:∀b,AS u b->Z0.next<=b:=fun b hb=>(m3 b hb).elim (hv b) (fun h=>by omega)
        have e:acc++Nw (a::b::r)=(acc++[I4 a*16+I4 b])++Nw r:=by
          show acc++((I4 a*16+I4 b)::Nw r)=_
          rw[DD];rfl
        have d3':E6 Z3 1 (acc++[I4 a*16+I4 b]).length u (Jb (acc++[I4 a*16+I4 b])):=by
          rw[Aw,Jb,au];exact d3
        obtain⟨u',Z',g',d',h',f'⟩:=ih m r (i+2) k u (acc++[I4 a*16+I4 b]) Z3 (by omega) (by omega) (ha.dr (k:=2) (by simp)) (fun c hc=>hr c (by simp[hc])) d3' (by rw[Aw];simp only[AM,A0];omega) f03 hu
        refine⟨u',Z',?_,by rw[e];exact d',h',f'⟩
        unfold QE
        have uo:=d3.one
        simp -implicitDefEqProofs only [↓rP,rA,AD,AE,AB,ai,ai2,d1,↓cut,↓g1,wq,↓e2,↓g3,HQ uo]
        exact g'
  have a0:KZ (Cj w) 0 w:=⟨by
    have:=On.start (Cj w)
    rw[LS (fun c hc=>by rcases FT (hx c hc)with h | h<;>omega)]at this
    exact this,by rw[Fo];exact hw⟩
  obtain⟨u,Z',g,d,hu,f⟩:=loop (w.length+1) N w 0 0 .nils [] Z0 (by omega) (by omega) a0 hx (E6.nil Z0 1) (by simp;omega) (Fr.refl ht0) (fun b h=>h.elim)
  refine⟨u,Z',g,d.src,?_,hu,f⟩
  rcases d with h|⟨b,rfl,_⟩
  · rcases h with ⟨_,rfl,_⟩ | ⟨_,rfl,_⟩
    · exact .inl rfl
    · exact .inr ⟨_,_,_,_,rfl⟩
  · exact .inr ⟨_,_,_,_,rfl⟩
theorem jo (hP:Fs (D 18)) (hI:Ft (D 38)) (hM:Jp (D 68)) (hX:Iy (D 37)) (hF:GX (D 36)) (hO:UD (D 80)):UB (uE E D W N):=by
 intro Z pb lv ts l R h
 have g0:=hP h
 unfold Ca at g0
 have hm:=Uq h
 show ∃v Z',KO E D W (U8 E D W) pb 0 Z=_/\_
 obtain⟨Z1,g1,p1,f1⟩:=hI (BS.mk 4 1163219540) h
 unfold JN
 have n1:(CF l)=CF l:=rfl
 have st:∀(s:BS) (l:List A4),(CE s l).1=false->(CE s l).2=l:=by
  intro s l hb
  unfold CE at hb ⊢
  cases hs:MY s l with
  | true=>rw[hs]at hb;cases hb
  | false=>rfl
 have s1:=st (BS.mk 4 1163219540) l
 generalize CE (BS.mk 4 1163219540) l=i1 at g1 p1 s1 ⊢
 obtain⟨b1,l1⟩:=i1
 cases b1 with
 | true=>
  refine⟨.nils,Z1,?_,p1,GA.nil0 _,.inl rfl,fun _ h=>h.elim,f1⟩
  unfold KO
  simp -implicitDefEqProofs only [↓rP,rS,↓g0,↓g1]
  rfl
 | false=>
  have s1:l1=l:=s1 rfl
  subst s1
  simp only[]at g1 p1 ⊢
  obtain⟨Z2,g2,p2,f2⟩:=hI (BS.mk 5 297750249798) p1
  have f02:=f1.trans f2 (fun _ _ h=>h)
  have s2:=st (BS.mk 5 297750249798) l1
  generalize CE (BS.mk 5 297750249798) l1=i2 at g2 p2 s2 ⊢
  obtain⟨b2,l2⟩:=i2
  cases b2 with
  | true=>
   refine⟨.nils,Z2,?_,p2,GA.nil0 _,.inl rfl,fun _ h=>h.elim,f02⟩
   unfold KO
   simp -implicitDefEqProofs only [↓rP,rS,↓g0,↓g1,↓g2]
   rfl
  | false=>
   have s2:l2=l1:=s2 rfl
   subst s2
   simp only[]at g2 p2 ⊢
   obtain⟨Z3,g3,p3,f3⟩:=hI (BS.mk 4 1280070990) p2
   have f03:=f02.trans f3 (fun _ _ h=>h)
   have s3:=st (BS.mk 4 1280070990) l2
   generalize CE (BS.mk 4 1280070990) l2=i3 at g3 p3 s3 ⊢
   obtain⟨b3,l3⟩:=i3
   cases b3 with
   | true=>
    refine⟨.nils,Z3,?_,p3,GA.nil0 _,.inl rfl,fun _ h=>h.elim,f03⟩
    unfold KO
    simp -implicitDefEqProofs only [↓rP,rS,↓g0,↓g1,↓g2,↓g3]
    rfl
   | false=>
    have s3:l3=l2:=s3 rfl
    subst s3
    simp only[]at g3 p3 ⊢
    obtain⟨hlen,hbd⟩:=h.ok.oct _ hm
    have hhx:=h.ok.hexs _ hm
    have blen:Ab (Cj (CF l3).2.1).len 1000000000000=true:=by rw[Fo,Ai];omega
    obtain⟨Z4,e4,f4,a4,n4⟩:=Nx p3.ht (Jb (CF l3).2.1)
    have p4:=p3.fr0 f4
    have eo:=R6 hbd
    have f04:Fr (fun k=>k=pb) Z Z4:=f03.trans f4 (fun _ _ h=>h.elim)
    have le03:=f03.le
    have out:∀(Z5:H) (kd:Nat) (v:V) (bs:List Nat),Ps Z5 pb lv ts l3 R->Fr (fun k=>k=pb) Z Z5->GA Z5 1 bs.length v (Jb bs)->wH v->(∀b,AS v b->Z.next<=b) ->
      ∃Z',(U8 E D W pb 0 (AA 0) (AA 0) .nils .nils (AA 0) .nils (AA kd) (AA 0) v .nils (AA 0) .nils Z5=some (.tup [.agg (qY.c (kd,0,bs) v),.bool true],Z'))/\Ps Z' pb lv ts (JE l3) R/\GA Z' 1 bs.length v (Jb bs)/\Fr (fun k=>k=pb) Z Z':=by
     intro Z5 kd v bs p5 f5 hs hv hn
     obtain⟨Z6,g6,p6,f6⟩:=hX p5
     unfold Ca at g6
     have lp:=h.lt
     refine⟨Z6,?_,p6,hs.fr f6 p5.ht (fun b hb e=>by have:=hn b hb;omega),f5.trans f6 (fun _ _ h=>h)⟩
     have vo:v.one=true:=hs.one
     unfold U8
     simp -implicitDefEqProofs only [↓rP,rA,AD,AE,AB,↓g6,vo]
     rfl
    cases h3:decide ((CF l3).1=3)with
    | true=>
     obtain⟨Z5,g5,p5,f5⟩:=hM p4
     unfold Ca at g5
     simp only[]at ⊢
     generalize Ed l3 R.er=i5 at g5 p5 ⊢
     obtain⟨b5,n,l5,er5⟩:=i5
     simp only[]at g5 p5 ⊢
     refine⟨.nils,Z5,?_,p5,GA.nil0 _,.inl rfl,fun _ h=>h.elim,f04.trans f5 (fun _ _ h=>h)⟩
     unfold KO
     simp -implicitDefEqProofs only [↓rP,rA,AD,AE,AB,↓g0,↓g1,↓g2,↓g3,blen,eo,↓e4,h3,↓g5]
     rfl
    | false=>
     simp only[]at ⊢
     have s4:GA Z4 1 (CF l3).2.1.length (.sl Z3.next 0 (CF l3).2.1.length (.op 1)) (Jb (CF l3).2.1) := .inr ⟨_,_,_,_,rfl,a4,by rw[Jb,Ea];omega,by rw[EV,FC,I0 (by rw[Jb,Ea];exact AG _)]⟩
     have v4:wH (.sl Z3.next 0 (CF l3).2.1.length (.op 1)) := .inr ⟨_,_,_,_,rfl⟩
     have n4':∀b,AS (.sl Z3.next 0 (CF l3).2.1.length (.op 1)) b->Z.next<=b:=fun b hb=>by cases hb;exact le03
     have ll:(Cj (CF l3).2.1).len=(CF l3).2.1.length:=Fo _
     have blen2:Ab (CF l3).2.1.length 1000000000000=true:=by rw[Ai];omega
     cases h2:decide ((CF l3).1=2)with
     | true=>
      obtain⟨Z6,g6,p6,s6,f6⟩:=out Z4 3 _ _ p4 f04 s4 v4 n4'
      refine⟨_,Z6,?_,p6,s6,v4,n4',f6⟩
      unfold KO
      simp -implicitDefEqProofs only [↓rP,rA,AD,AE,AB,↓g0,↓g1,↓g2,↓g3,blen,eo,↓e4,h3,h2,ll,blen2]
      exact g6
     | false=>
      cases h7:decide ((CF l3).1=7)with
      | true=>
       obtain⟨Z6,g6,p6,s6,f6⟩:=out Z4 6 _ _ p4 f04 s4 v4 n4'
       refine⟨_,Z6,?_,p6,s6,v4,n4',f6⟩
       unfold KO
       simp -implicitDefEqProofs only [↓rP,rA,AD,AE,AB,↓g0,↓g1,↓g2,↓g3,blen,eo,↓e4,h3,h2,h7,ll,blen2]
       exact g6
      | false=>
       cases h4:decide ((CF l3).1=4)with
       | true=>
        obtain⟨v,Z5,g5,s5,v5,n5,f5⟩:=hO Z4 (CF l3).2.1 p4.ht (hhx (of_decide_eq_true h4)) hlen
        have le4:=f04.le
        have n5':∀b,AS v b->Z.next<=b:=fun b hb=>by have:=n5 b hb;omega
        have vo:v.one=true:=s5.one
        obtain⟨Z6,g6,p6,s6,f6⟩:=out Z5 5 v _ (p4.fr0 f5) (f04.trans f5 (fun _ _ h=>h.elim)) s5 v5 n5'
        refine⟨v,Z6,?_,p6,s6,v5,n5',f6⟩
        unfold KO
        simp -implicitDefEqProofs only [↓rP,rA,AD,AE,AB,↓g0,↓g1,↓g2,↓g3,blen,eo,↓e4,h3,h2,h7,h4,↓g5,HQ vo]
        exact g6
       | false=>
        obtain⟨Z5,g5,p5,f5⟩:=hF (CF l3).2.2 7 p4
        refine⟨.nils,Z5,?_,p5,GA.nil0 _,.inl rfl,fun _ h=>h.elim,f04.trans f5 (fun _ _ h=>h)⟩
        unfold KO
        simp -implicitDefEqProofs only [↓rP,rA,AD,AE,AB,↓g0,↓g1,↓g2,↓g3,blen,eo,↓e4,h3,h2,h7,h4,↓g5]
        rfl
end
def Gx:List AL->List (V × FV)->List V
 | nd::ns,u::ws=>nd.c u.1 u.2.1++Gx ns ws
 | _,_=>[]
theorem Q8 (nd:AL) (iv fv:V):(nd.c iv fv).length=16:=rfl
theorem SF:∀(ns:List AL) (ws:List (V × FV)) (nd:AL) (u:V × FV),ws.length=ns.length->Gx (ns++[nd]) (ws++[u])=Gx ns ws++nd.c u.1 u.2.1
 | [],[],nd,u,_=>by simp[Gx]
 | x::ns,y::ws,nd,u,h=>by
  have ih:=SF ns ws nd u (by simpa using h)
  show x.c y.1 y.2.1++Gx (ns++[nd]) (ws++[u])=(x.c y.1 y.2.1++Gx ns ws)++_
  rw[ih,DD]
 | [],_::_,_,_,h=>by simp at h
 | _::_,[],_,_,h=>by simp at h
theorem LX:∀(ns:List AL) (ws:List (V × FV)),ws.length=ns.length->(Gx ns ws).length=ns.length*16
 | [],[],_=>rfl
 | x::ns,y::ws,h=>by
  have ih:=LX ns ws (by simpa using h)
  show (x.c y.1 y.2.1++Gx ns ws).length=_
  rw[Aw,ih,Q8,AM];omega
 | [],_::_,h=>by simp at h
 | _::_,[],h=>by simp at h
theorem Pe:∀(a b:List V) (n:Nat) (cs:List V),F0 (a++b) (a.length+n) cs=a++F0 b n cs
 | [],b,n,cs=>by simp
 | x::a,b,n,cs=>by
  rw[AM,show a.length+1+n=(a.length+n)+1 by omega]
  show F0 (x::(a++b)) (a.length+n+1) cs=x::(a++F0 b n cs)
  rw[<-Pe a b n cs]
  cases cs with
  | nil=>simp[F0]
  | cons c cs=>rfl
theorem Nd:∀(a b cs:List V),cs.length=a.length->F0 (a++b) 0 cs=cs++b
 | [],b,[],_=>by cases b<;>rfl
 | x::a,b,c::cs,h=>by
  show c::F0 (a++b) 0 cs=_
  rw[Nd a b cs (by simpa using h)];rfl
 | [],_,_::_,h=>by simp at h
 | _::_,_,[],h=>by simp at h
theorem SE:∀(ns:List AL) (ws:List (V × FV)) (i:Nat) (nd:AL) (u:V × FV),ws.length=ns.length->i<ns.length->F0 (Gx ns ws) (i*16) (nd.c u.1 u.2.1)=Gx (ns.set i nd) (ws.set i u)
 | x::ns,y::ws,0,nd,u,_,_=>by
  show F0 (x.c y.1 y.2.1++Gx ns ws) 0 _=nd.c u.1 u.2.1++Gx ns ws
  exact Nd _ _ _ rfl
 | x::ns,y::ws,i+1,nd,u,h,hi=>by
  have ih:=SE ns ws i nd u (by simpa using h) (by simpa using hi)
  show F0 (x.c y.1 y.2.1++Gx ns ws) ((i+1)*16) _=x.c y.1 y.2.1++Gx (ns.set i nd) (ws.set i u)
  rw[<-ih,show (i+1)*16=(x.c y.1 y.2.1).length+i*16 by rw[Q8];omega,Pe]
 | [],_,_,_,_,_,h=>by simp at h
 | _::_,[],_,_,_,h,_=>by simp at h
def PB (pb:Nat) (dv:V):Nat->Prop:=fun b=>b=pb\/AS dv b
structure dz (Z:H) (pb:Nat) (dv:V) (Q:Nat->Prop) (nd:AL) (u:V × FV):Prop where
 i:GA Z 3 nd.items.length u.1 (kK nd.items)
 f:GA Z 11 nd.fields.length u.2.1 (TP nd.fields u.2.2)
 g:eH Z nd.fields u.2.2
 n:∀b,AS u.1 b\/NF u.2 b->b≠pb/\¬AS dv b/\¬Q b
theorem dz.fr {Z Z':H} {pb:Nat} {dv:V} {Q:Nat->Prop} {nd:AL} {u:V × FV} {S:Nat->Prop} (h:dz Z pb dv Q nd u) (f:Fr S Z Z') (ht:Ci Z) (hn:∀b,AS u.1 b\/NF u.2 b->¬S b):dz Z' pb dv Q nd u:=
 ⟨h.i.fr f ht fun b hb=>hn b (.inl hb),h.f.fr f ht fun b hb=>hn b (.inr (.inl hb)),h.g.fr f ht fun v hv b hb=>hn b (.inr (.inr ⟨v,hv,hb⟩)),h.n⟩
structure Pn (Z:H) (pb:Nat) (lv:V) (ts l:List A4) (R:Rp) (ns:List AL) (Q:Nat->Prop):Prop where
 p:Ps Z pb lv ts l R
 w:∃ws:List (V × FV),E6 Z 16 ns.length R.dv (Gx ns ws)/\ws.length=ns.length/\∀(k:Nat) (nd:AL) (u:V × FV),ns[k]? = some nd->ws[k]? = some u->dz Z pb R.dv Q nd u
 dx:∀b,AS R.dv b->b≠pb/\¬AS lv b
structure Aq (pb:Nat) (lv dv:V) (nb:Nat) (iv:V) (fv:FV):Prop where
 a:Ap pb lv nb iv fv
 d:¬AS dv nb
 i:∀b,AS iv b->¬AS dv b
 f:∀b,NF fv b->¬AS dv b
section
variable {Z Z':H} {nb:Nat} {nd:AL} {iv:V} {fv:FV} {pb:Nat} {lv dv dv':V} {ts l l':List A4} {R:Rp} {ns:List AL} {Q Q':Nat->Prop}
theorem dz.lt {u:V × FV} (h:dz Z pb dv Q nd u) (ht:Ci Z) {b:Nat} (hb:AS u.1 b\/NF u.2 b):b<Z.next:=by
 rcases hb with hb|hb|⟨v,hv,hb⟩
 ·exact h.i.lt ht hb
 ·exact h.f.lt ht hb
 ·exact h.g.lt ht hv hb
theorem Pn.goe {er:Er} (h:Pn Z pb lv ts l R ns Q) (p:Ps Z' pb lv ts l' (R.e er)) (f:Fr (fun k=>k=pb) Z Z'):Pn Z' pb lv ts l' (R.e er) ns Q:=by
 obtain⟨ws,h1,h2,h3⟩:=h.w
 refine⟨p,⟨ws,h1.fr f h.p.ht fun b hb e=>(h.dx b hb).1 e,h2,fun k nd u hn hu=>?_⟩,h.dx⟩
 exact(h3 k nd u hn hu).fr f h.p.ht fun b hb e=>((h3 k nd u hn hu).n b hb).1 e
theorem Pn.fr {S:Nat->Prop} (h:Pn Z pb lv ts l R ns Q) (f:Fr S Z Z') (h1:¬S pb) (h2:∀b,AS lv b->¬S b) (h3:∀b,AS R.dv b->¬S b) (h4:∀b,b<Z.next->S b->Q b):Pn Z' pb lv ts l R ns Q:=by
 obtain⟨ws,k1,k2,k3⟩:=h.w
 refine⟨h.p.fr f h1 h2,⟨ws,k1.fr f h.p.ht h3,k2,fun k nd u hn hu=>?_⟩,h.dx⟩
 have hN:=k3 k nd u hn hu
 exact hN.fr f h.p.ht fun x hb e=>(hN.n x hb).2.2 (h4 x (hN.lt h.p.ht hb) e)
theorem Pn.dlt (h:Pn Z pb lv ts l R ns Q) {b:Nat} (hb:AS R.dv b):b<Z.next:=by
 obtain⟨ws,k1,_⟩:=h.w
 exact k1.lt h.p.ht hb
theorem Pn.llt (h:Pn Z pb lv ts l R ns Q) {b:Nat} (hb:AS lv b):b<Z.next:=h.p.src.lt h.p.ht hb
theorem Pn.ext (h:Pn Z pb lv ts l R ns Q) (hQ:∀b,Q' b->Q b\/Z.next<=b):Pn Z pb lv ts l R ns Q':=by
 obtain⟨ws,k1,k2,k3⟩:=h.w
 refine⟨h.p,⟨ws,k1,k2,fun k nd u hn hu=>?_⟩,h.dx⟩
 have hN:=k3 k nd u hn hu
 exact⟨hN.i,hN.f,hN.g,fun b hb=>⟨(hN.n b hb).1,(hN.n b hb).2.1,fun q=>(hQ b q).elim (hN.n b hb).2.2 fun h'=>by have:=hN.lt h.p.ht hb;omega⟩⟩
theorem Nq.frq (h:Nq Z nb nd iv fv) (f:Fr (PB pb dv) Z Z') (ht:Ci Z) (ap:Aq pb lv dv nb iv fv):Nq Z' nb nd iv fv:=
 h.fr f ht (fun e=>e.elim ap.a.x ap.d) (fun b hb e=>e.elim (ap.a.i b hb).1 (ap.i b hb)) (fun b hb e=>e.elim (ap.a.f b hb).1 (ap.f b hb))
theorem Aq.ndv (ap:Aq pb lv dv nb iv fv) (q:Nq Z nb nd iv fv) (ht:Ci Z) (h:∀b,AS dv' b->AS dv b\/Z.next<=b):Aq pb lv dv' nb iv fv:=
 ⟨ap.a,fun e=>(h nb e).elim ap.d fun h=>by have:=q.a.lt ht;omega,fun b hb e=>(h b e).elim (ap.i b hb) fun h=>by have:=q.lt_i ht hb;omega,fun b hb e=>(h b e).elim (ap.f b hb) fun h=>by have:=q.lt_f ht hb;omega⟩
end
end
end Go.Proofs.YtnpcmeaplmfdlaaDoor
