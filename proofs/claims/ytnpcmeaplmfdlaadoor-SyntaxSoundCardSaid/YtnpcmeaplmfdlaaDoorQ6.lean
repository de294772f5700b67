/- What the last text leans on, part 7 of 7: merged out of smaller texts. No condition. -/
import Derived.Shelf.LaysC
import Derived.Test.YtnpcmeaplmfdlaaDoorCards
import Derived.Lib.LaidU8
import Derived.Stop.LaidErr
import Derived.LaidSub
import Derived.Test.YtnpcmeaplmfdlaaDoorQ5
open Int renaming ofNat -> AA
open Nat renaming le_refl -> AG,eq_of_beq_eq_true -> BO,zero_add -> B2
open Option renaming some -> AK,map_some -> Bo
open List renaming getElem?_eq_getElem -> AY,getD_eq_getElem?_getD -> BA,getElem?_map -> Bk,getElem?_drop -> CL,mem_singleton -> Cc,getElem?_take -> DN,length_map -> Ea,range -> Hi,getElem?_range -> bD
open Array renaming getElem?_toList -> GZ
set_option linter.all false
set_option maxRecDepth 100000
namespace Go.Proofs.YtnpcmeaplmfdlaaDoor
open Go Go.Og
noncomputable section
theorem qG {e:Ff} {F:List V->H->AH} {args:List V} {Z:H} {ρ:Nat->Nat} (hm:e.Fits ρ args Z):∃ρ',e.Fits ρ' args Z/\RB [e] F args Z=some (e.ans ρ' Z):=by
 obtain⟨e',ρ',he,hf,hr⟩:=YL (F:=F) (l:=[e]) (Cc.2 rfl) hm
 have:=Cc.1 he
 subst this
 exact⟨ρ',hf,hr⟩
theorem nY.nil {ρ:Nat->Nat} {Z:H}:nY [] ρ Z:=fun id b h=>by cases h
theorem nW.nil {ρ:Nat->Nat}:nW [] ρ:=fun id id' h=>by cases h
section
variable {E:EB}
theorem nP (d:Nat):LD (TW E (d+1) 27):=by rw[ABW];exact xu
theorem jU (d:Nat):Oi (TW E (d+1) 29):=by rw[ABU];exact pv
theorem bH (d:Nat):Lw (TW E (d+1) 31):=by rw[ABS];exact qT
theorem xJ (d:Nat):Wm (TW E (d+1) 53):=by rw[ABG];exact px
theorem wy (d:Nat):Wm (TW E (d+2) 43):=by rw[ABK];exact pd (xJ d)
theorem xV (d:Nat):S3 (TW E (d+3) 28):=by rw[ABV];exact yG (wy d)
theorem xSk (d:Nat):dm 600000 (TW E (d+4) 13):=by rw[ABd];exact xp (nP (d+2)) (xV d) (by decide)
theorem xWd (d:Nat):kg (TW E (d+1) 44):=by rw[ABJ];exact xj
theorem xF (d:Nat):M6 (fun r=>∃c l,r=c::l/\IX c=true) (fun r=>Q7 (r.headD 0) (r.drop 1)) (TW E (d+2) 30):=by rw[ABT];exact cD (nP d) (jU d) (bH d) (xWd d) (by decide)
theorem wx (d:Nat):M6 (fun _=>True) Vy (TW E (d+4) 35):=by rw[ABO];exact bV (xV d) (by decide)
theorem w4 (d:Nat):M6 (fun r=>(∃c l,r=c::l/\Bj c=true)\/∃l,r=45::l/\Bj (l.headD 0)=true) SG (TW E (d+2) 32):=by rw[ABR];exact j6 (nP d) (jU d) (bH d) (uh E _) (by decide)
theorem xK (d:Nat):M6 (fun r=>∃l,r=39::l) Up (TW E (d+4) 33):=by rw[ABQ];exact kM (nP (d+2)) (bH (d+2)) (xV d) (by decide)
theorem xW8 (d:Nat):ZZ E (TW E (d+1) 56):=by rw[ABF];exact xk
theorem xVl (d:Nat):di E (TW E (d+2) 46):=by rw[ABI];exact xl (xW8 d) (by decide)
theorem wa (d:Nat):UC E (fun r=>∃q,r=34::q) bQ (TW E (d+3) 34):=by rw[ABP];exact jr (nP (d+1)) (xVl d) (by decide)
theorem wc (d:Nat):UC E (fun r=>r≠[]) MW (TW E (d+5) 14):=by rw[ABc];exact pT (nP (d+3)) (jU (d+3)) (bH (d+3)) (xF (d+2)) (w4 (d+2)) (xK d) (wa (d+1)) (wx d)
theorem xI (d:Nat):Zd E 600000 (TW E (d+6) 7):=by rw[DE7];exact qB (xSk (d+1)) (wc d) (by decide)
theorem Ct (d:Nat):Fs (TW E (d+1) 18):=by rw[ABY];exact bq
theorem FE (d:Nat):Iy (TW E (d+1) 37):=by rw[ABM];exact cB
theorem JJ (d:Nat):Of (TW E (d+2) 17):=by rw[ABZ];exact Vu (Ct d)
theorem Dl (d:Nat):Ft (TW E (d+3) 38):=by rw[ABL];exact qF (JJ d) (FE (d+1))
theorem Cu (d:Nat):GX (TW E (d+1) 36):=by rw[ABN];exact cf
theorem BW (d:Nat):Di (TW E (d+4) 16):=by rw[ABa];exact bI (Dl d) (Ct (d+2)) (Cu (d+2)) (by decide)
theorem PX (d:Nat):Oh (TW E (d+2) 15):=by rw[ABb];exact pn (Ct d) (FE d) (Cu d)
theorem bG (d:Nat):Jp (TW E (d+3) 68):=by rw[AA9];exact j8 (PX d) (uh E _)
theorem JD (d:Nat):UF (TW E (d+1) 47):=by rw[ABH];exact kZ
theorem Ga (d:Nat):RP (TW E (d+5) 57):=by rw[ABE];exact cH (Dl (d+1)) (bG (d+1)) (Cu (d+3)) (BW d)
theorem JC (d:Nat):RR (TW E (d+5) 59):=by rw[ABC];exact kW (Dl (d+1)) (bG (d+1)) (BW d)
theorem J1 (d:Nat):VP (TW E (d+6) 58):=by rw[ABD];exact pW (Dl (d+2)) (BW (d+1)) (JC d)
theorem ob (d:Nat):NP (TW E (d+5) 69):=by rw[AA8];exact cV (PX (d+2)) (Dl (d+1)) (bG (d+1)) (BW d)
theorem El (d:Nat):Oj (TW E (d+6) 60):=by rw[ABB];exact YT (Dl (d+2)) (BW (d+1)) (ob d) (by decide)
theorem xH (d:Nat):RQ (TW E (d+1) 72):=by rw[AA7];exact kC
theorem wz (d:Nat):QM (TW E (d+2) 63):=by rw[ABA];exact ph (xH d) (by decide)
theorem xPu (d:Nat):QM (TW E (d+3) 82):=by rw[AA4];exact xt (wz d)
theorem w3 (d:Nat):UD (TW E (d+4) 80):=by rw[AA5];exact j5 (xPu d) (by decide)
theorem JM (d:Nat):UB (TW E (d+5) 78):=by rw[AA6];exact jo (Ct (d+3)) (Dl (d+1)) (bG (d+1)) (FE (d+3)) (Cu (d+3)) (w3 d)
theorem eX (d:Nat):Dg (BK 1) (TW E (d+2) 39):=by rw[JH];exact Ec (Au 0) (Ct d) (JD d) (Cu d) (fun h=>absurd h (by decide))
theorem je (d:Nat):CZ (BK 1) (TW E (d+6) 71):=by rw[Js];exact DF (PX (d+3)) (Dl (d+2)) (JM d) (eX (d+3))
theorem xT (d:Nat):Fu (BK 1) (TW E (d+7) 77):=by rw[Jr];exact Gm (fun d l er ns=>(Au 1 d l er ns).l) (Dl (d+3)) (BW (d+2)) (je d) (by decide)
theorem xi (d:Nat):Fv (BK 1) (TW E (d+8) 70):=by rw[Jt];exact Gq (fun d l er ns=>(Au 1 d l er ns).l) (Dl (d+4)) (xT d) (je (d+1)) (by decide)
theorem ow (d:Nat):CP (BK 1) (TW E (d+9) 61):=by rw[Jv];exact Co (fun d l er ns=>(Au 1 d l er ns).l) (Dl (d+5)) (JJ (d+6)) (BW (d+4)) (xi d) (je (d+2)) (by decide)
theorem wv (d:Nat):ES (BK 1) (TW E (d+10) 62):=by rw[Ju];exact En (JJ (d+7)) (J1 (d+3)) (BW (d+5)) (ow d) (eX (d+7))
theorem xE (d:Nat):DU (BK 1) (TW E (d+11) 48):=by rw[Jw];exact Ds (Ct (d+9)) (FE (d+9)) (Ga (d+5)) (Dl (d+7)) (Cu (d+9)) (BW (d+6)) (J1 (d+4)) (JC (d+5)) (El (d+4)) (ow (d+1)) (wv d)
theorem eW (d:Nat):Dg (BK 2) (TW E (d+12) 39):=by rw[JH];exact Ec (Au 1) (Ct (d+10)) (JD (d+10)) (Cu (d+10)) (fun _=>xE d)
theorem jd (d:Nat):CZ (BK 2) (TW E (d+13) 71):=by rw[Js];exact DF (PX (d+10)) (Dl (d+9)) (JM (d+7)) (eW d)
theorem xS (d:Nat):Fu (BK 2) (TW E (d+14) 77):=by rw[Jr];exact Gm (fun d l er ns=>(Au 2 d l er ns).l) (Dl (d+10)) (BW (d+9)) (jd d) (by decide)
theorem xh (d:Nat):Fv (BK 2) (TW E (d+15) 70):=by rw[Jt];exact Gq (fun d l er ns=>(Au 2 d l er ns).l) (Dl (d+11)) (xS d) (jd (d+1)) (by decide)
theorem ov (d:Nat):CP (BK 2) (TW E (d+16) 61):=by rw[Jv];exact Co (fun d l er ns=>(Au 2 d l er ns).l) (Dl (d+12)) (JJ (d+13)) (BW (d+11)) (xh d) (jd (d+2)) (by decide)
theorem wu (d:Nat):ES (BK 2) (TW E (d+17) 62):=by rw[Ju];exact En (JJ (d+14)) (J1 (d+10)) (BW (d+12)) (ov d) (eW (d+4))
theorem xD (d:Nat):DU (BK 2) (TW E (d+18) 48):=by rw[Jw];exact Ds (Ct (d+16)) (FE (d+16)) (Ga (d+12)) (Dl (d+14)) (Cu (d+16)) (BW (d+13)) (J1 (d+11)) (JC (d+12)) (El (d+11)) (ov (d+1)) (wu d)
theorem eV (d:Nat):Dg (BK 3) (TW E (d+19) 39):=by rw[JH];exact Ec (Au 2) (Ct (d+17)) (JD (d+17)) (Cu (d+17)) (fun _=>xD d)
theorem jc (d:Nat):CZ (BK 3) (TW E (d+20) 71):=by rw[Js];exact DF (PX (d+17)) (Dl (d+16)) (JM (d+14)) (eV d)
theorem xR (d:Nat):Fu (BK 3) (TW E (d+21) 77):=by rw[Jr];exact Gm (fun d l er ns=>(Au 3 d l er ns).l) (Dl (d+17)) (BW (d+16)) (jc d) (by decide)
theorem xg (d:Nat):Fv (BK 3) (TW E (d+22) 70):=by rw[Jt];exact Gq (fun d l er ns=>(Au 3 d l er ns).l) (Dl (d+18)) (xR d) (jc (d+1)) (by decide)
theorem ou (d:Nat):CP (BK 3) (TW E (d+23) 61):=by rw[Jv];exact Co (fun d l er ns=>(Au 3 d l er ns).l) (Dl (d+19)) (JJ (d+20)) (BW (d+18)) (xg d) (jc (d+2)) (by decide)
theorem wo (d:Nat):ES (BK 3) (TW E (d+24) 62):=by rw[Ju];exact En (JJ (d+21)) (J1 (d+17)) (BW (d+19)) (ou d) (eV (d+4))
theorem xC (d:Nat):DU (BK 3) (TW E (d+25) 48):=by rw[Jw];exact Ds (Ct (d+23)) (FE (d+23)) (Ga (d+19)) (Dl (d+21)) (Cu (d+23)) (BW (d+20)) (J1 (d+18)) (JC (d+19)) (El (d+18)) (ou (d+1)) (wo d)
theorem eU (d:Nat):Dg (BK 4) (TW E (d+26) 39):=by rw[JH];exact Ec (Au 3) (Ct (d+24)) (JD (d+24)) (Cu (d+24)) (fun _=>xC d)
theorem ja (d:Nat):CZ (BK 4) (TW E (d+27) 71):=by rw[Js];exact DF (PX (d+24)) (Dl (d+23)) (JM (d+21)) (eU d)
theorem xQ (d:Nat):Fu (BK 4) (TW E (d+28) 77):=by rw[Jr];exact Gm (fun d l er ns=>(Au 4 d l er ns).l) (Dl (d+24)) (BW (d+23)) (ja d) (by decide)
theorem xe (d:Nat):Fv (BK 4) (TW E (d+29) 70):=by rw[Jt];exact Gq (fun d l er ns=>(Au 4 d l er ns).l) (Dl (d+25)) (xQ d) (ja (d+1)) (by decide)
theorem ot (d:Nat):CP (BK 4) (TW E (d+30) 61):=by rw[Jv];exact Co (fun d l er ns=>(Au 4 d l er ns).l) (Dl (d+26)) (JJ (d+27)) (BW (d+25)) (xe d) (ja (d+2)) (by decide)
theorem wm (d:Nat):ES (BK 4) (TW E (d+31) 62):=by rw[Ju];exact En (JJ (d+28)) (J1 (d+24)) (BW (d+26)) (ot d) (eU (d+4))
theorem xB (d:Nat):DU (BK 4) (TW E (d+32) 48):=by rw[Jw];exact Ds (Ct (d+30)) (FE (d+30)) (Ga (d+26)) (Dl (d+28)) (Cu (d+30)) (BW (d+27)) (J1 (d+25)) (JC (d+26)) (El (d+25)) (ot (d+1)) (wm d)
theorem eS (d:Nat):Dg (BK 5) (TW E (d+33) 39):=by rw[JH];exact Ec (Au 4) (Ct (d+31)) (JD (d+31)) (Cu (d+31)) (fun _=>xB d)
theorem jZ (d:Nat):CZ (BK 5) (TW E (d+34) 71):=by rw[Js];exact DF (PX (d+31)) (Dl (d+30)) (JM (d+28)) (eS d)
theorem xP (d:Nat):Fu (BK 5) (TW E (d+35) 77):=by rw[Jr];exact Gm (fun d l er ns=>(Au 5 d l er ns).l) (Dl (d+31)) (BW (d+30)) (jZ d) (by decide)
theorem xd (d:Nat):Fv (BK 5) (TW E (d+36) 70):=by rw[Jt];exact Gq (fun d l er ns=>(Au 5 d l er ns).l) (Dl (d+32)) (xP d) (jZ (d+1)) (by decide)
theorem oq (d:Nat):CP (BK 5) (TW E (d+37) 61):=by rw[Jv];exact Co (fun d l er ns=>(Au 5 d l er ns).l) (Dl (d+33)) (JJ (d+34)) (BW (d+32)) (xd d) (jZ (d+2)) (by decide)
theorem wk (d:Nat):ES (BK 5) (TW E (d+38) 62):=by rw[Ju];exact En (JJ (d+35)) (J1 (d+31)) (BW (d+33)) (oq d) (eS (d+4))
theorem xA (d:Nat):DU (BK 5) (TW E (d+39) 48):=by rw[Jw];exact Ds (Ct (d+37)) (FE (d+37)) (Ga (d+33)) (Dl (d+35)) (Cu (d+37)) (BW (d+34)) (J1 (d+32)) (JC (d+33)) (El (d+32)) (oq (d+1)) (wk d)
theorem eR (d:Nat):Dg (BK 6) (TW E (d+40) 39):=by rw[JH];exact Ec (Au 5) (Ct (d+38)) (JD (d+38)) (Cu (d+38)) (fun _=>xA d)
theorem jY (d:Nat):CZ (BK 6) (TW E (d+41) 71):=by rw[Js];exact DF (PX (d+38)) (Dl (d+37)) (JM (d+35)) (eR d)
theorem xO (d:Nat):Fu (BK 6) (TW E (d+42) 77):=by rw[Jr];exact Gm (fun d l er ns=>(Au 6 d l er ns).l) (Dl (d+38)) (BW (d+37)) (jY d) (by decide)
theorem xZ (d:Nat):Fv (BK 6) (TW E (d+43) 70):=by rw[Jt];exact Gq (fun d l er ns=>(Au 6 d l er ns).l) (Dl (d+39)) (xO d) (jY (d+1)) (by decide)
theorem om (d:Nat):CP (BK 6) (TW E (d+44) 61):=by rw[Jv];exact Co (fun d l er ns=>(Au 6 d l er ns).l) (Dl (d+40)) (JJ (d+41)) (BW (d+39)) (xZ d) (jY (d+2)) (by decide)
theorem wj (d:Nat):ES (BK 6) (TW E (d+45) 62):=by rw[Ju];exact En (JJ (d+42)) (J1 (d+38)) (BW (d+40)) (om d) (eR (d+4))
theorem w9 (d:Nat):DU (BK 6) (TW E (d+46) 48):=by rw[Jw];exact Ds (Ct (d+44)) (FE (d+44)) (Ga (d+40)) (Dl (d+42)) (Cu (d+44)) (BW (d+41)) (J1 (d+39)) (JC (d+40)) (El (d+39)) (om (d+1)) (wj d)
theorem eQ (d:Nat):Dg (BK 7) (TW E (d+47) 39):=by rw[JH];exact Ec (Au 6) (Ct (d+45)) (JD (d+45)) (Cu (d+45)) (fun _=>w9 d)
theorem jX (d:Nat):CZ (BK 7) (TW E (d+48) 71):=by rw[Js];exact DF (PX (d+45)) (Dl (d+44)) (JM (d+42)) (eQ d)
theorem xN (d:Nat):Fu (BK 7) (TW E (d+49) 77):=by rw[Jr];exact Gm (fun d l er ns=>(Au 7 d l er ns).l) (Dl (d+45)) (BW (d+44)) (jX d) (by decide)
theorem xY (d:Nat):Fv (BK 7) (TW E (d+50) 70):=by rw[Jt];exact Gq (fun d l er ns=>(Au 7 d l er ns).l) (Dl (d+46)) (xN d) (jX (d+1)) (by decide)
theorem oh (d:Nat):CP (BK 7) (TW E (d+51) 61):=by rw[Jv];exact Co (fun d l er ns=>(Au 7 d l er ns).l) (Dl (d+47)) (JJ (d+48)) (BW (d+46)) (xY d) (jX (d+2)) (by decide)
theorem wh (d:Nat):ES (BK 7) (TW E (d+52) 62):=by rw[Ju];exact En (JJ (d+49)) (J1 (d+45)) (BW (d+47)) (oh d) (eQ (d+4))
theorem w7 (d:Nat):DU (BK 7) (TW E (d+53) 48):=by rw[Jw];exact Ds (Ct (d+51)) (FE (d+51)) (Ga (d+47)) (Dl (d+49)) (Cu (d+51)) (BW (d+48)) (J1 (d+46)) (JC (d+47)) (El (d+46)) (oh (d+1)) (wh d)
theorem eP (d:Nat):Dg (BK 8) (TW E (d+54) 39):=by rw[JH];exact Ec (Au 7) (Ct (d+52)) (JD (d+52)) (Cu (d+52)) (fun _=>w7 d)
theorem jW (d:Nat):CZ (BK 8) (TW E (d+55) 71):=by rw[Js];exact DF (PX (d+52)) (Dl (d+51)) (JM (d+49)) (eP d)
theorem xM (d:Nat):Fu (BK 8) (TW E (d+56) 77):=by rw[Jr];exact Gm (fun d l er ns=>(Au 8 d l er ns).l) (Dl (d+52)) (BW (d+51)) (jW d) (by decide)
theorem xX (d:Nat):Fv (BK 8) (TW E (d+57) 70):=by rw[Jt];exact Gq (fun d l er ns=>(Au 8 d l er ns).l) (Dl (d+53)) (xM d) (jW (d+1)) (by decide)
theorem og (d:Nat):CP (BK 8) (TW E (d+58) 61):=by rw[Jv];exact Co (fun d l er ns=>(Au 8 d l er ns).l) (Dl (d+54)) (JJ (d+55)) (BW (d+53)) (xX d) (jW (d+2)) (by decide)
theorem wg (d:Nat):ES (BK 8) (TW E (d+59) 62):=by rw[Ju];exact En (JJ (d+56)) (J1 (d+52)) (BW (d+54)) (og d) (eP (d+4))
theorem w6 (d:Nat):DU (BK 8) (TW E (d+60) 48):=by rw[Jw];exact Ds (Ct (d+58)) (FE (d+58)) (Ga (d+54)) (Dl (d+56)) (Cu (d+58)) (BW (d+55)) (J1 (d+53)) (JC (d+54)) (El (d+53)) (og (d+1)) (wg d)
theorem eO (d:Nat):Dg (BK 9) (TW E (d+61) 39):=by rw[JH];exact Ec (Au 8) (Ct (d+59)) (JD (d+59)) (Cu (d+59)) (fun _=>w6 d)
theorem jV (d:Nat):CZ (BK 9) (TW E (d+62) 71):=by rw[Js];exact DF (PX (d+59)) (Dl (d+58)) (JM (d+56)) (eO d)
theorem xL (d:Nat):Fu (BK 9) (TW E (d+63) 77):=by rw[Jr];exact Gm (fun d l er ns=>(Au 9 d l er ns).l) (Dl (d+59)) (BW (d+58)) (jV d) (by decide)
theorem xW (d:Nat):Fv (BK 9) (TW E (d+64) 70):=by rw[Jt];exact Gq (fun d l er ns=>(Au 9 d l er ns).l) (Dl (d+60)) (xL d) (jV (d+1)) (by decide)
theorem oe (d:Nat):CP (BK 9) (TW E (d+65) 61):=by rw[Jv];exact Co (fun d l er ns=>(Au 9 d l er ns).l) (Dl (d+61)) (JJ (d+62)) (BW (d+60)) (xW d) (jV (d+2)) (by decide)
theorem we (d:Nat):ES (BK 9) (TW E (d+66) 62):=by rw[Ju];exact En (JJ (d+63)) (J1 (d+59)) (BW (d+61)) (oe d) (eO (d+4))
theorem w5 (d:Nat):DU (BK 9) (TW E (d+67) 48):=by rw[Jw];exact Ds (Ct (d+65)) (FE (d+65)) (Ga (d+61)) (Dl (d+63)) (Cu (d+65)) (BW (d+62)) (J1 (d+60)) (JC (d+61)) (El (d+60)) (oe (d+1)) (we d)
theorem XA (d:Nat):Dg (BK 10) (TW E (d+68) 39):=by rw[JH];exact Ec (Au 9) (Ct (d+66)) (JD (d+66)) (Cu (d+66)) (fun _=>w5 d)
theorem XJ (d:Nat):CZ (BK 10) (TW E (d+69) 71):=by rw[Js];exact DF (PX (d+66)) (Dl (d+65)) (JM (d+63)) (XA d)
theorem pE (d:Nat):Fu (BK 10) (TW E (d+70) 77):=by rw[Jr];exact Gm (fun d l er ns=>(Au 10 d l er ns).l) (Dl (d+66)) (BW (d+65)) (XJ d) (by decide)
theorem pN (d:Nat):Fv (BK 10) (TW E (d+71) 70):=by rw[Jt];exact Gq (fun d l er ns=>(Au 10 d l er ns).l) (Dl (d+67)) (pE d) (XJ (d+1)) (by decide)
theorem ey (d:Nat):CP (BK 10) (TW E (d+72) 61):=by rw[Jv];exact Co (fun d l er ns=>(Au 10 d l er ns).l) (Dl (d+68)) (JJ (d+69)) (BW (d+67)) (pN d) (XJ (d+2)) (by decide)
theorem oS (d:Nat):ES (BK 10) (TW E (d+73) 62):=by rw[Ju];exact En (JJ (d+70)) (J1 (d+66)) (BW (d+68)) (ey d) (XA (d+4))
theorem oa (d:Nat):DU (BK 10) (TW E (d+74) 48):=by rw[Jw];exact Ds (Ct (d+72)) (FE (d+72)) (Ga (d+68)) (Dl (d+70)) (Cu (d+72)) (BW (d+69)) (J1 (d+67)) (JC (d+68)) (El (d+67)) (ey (d+1)) (oS d)
theorem W9 (d:Nat):Dg (BK 11) (TW E (d+75) 39):=by rw[JH];exact Ec (Au 10) (Ct (d+73)) (JD (d+73)) (Cu (d+73)) (fun _=>oa d)
theorem XI (d:Nat):CZ (BK 11) (TW E (d+76) 71):=by rw[Js];exact DF (PX (d+73)) (Dl (d+72)) (JM (d+70)) (W9 d)
theorem pD (d:Nat):Fu (BK 11) (TW E (d+77) 77):=by rw[Jr];exact Gm (fun d l er ns=>(Au 11 d l er ns).l) (Dl (d+73)) (BW (d+72)) (XI d) (by decide)
theorem pM (d:Nat):Fv (BK 11) (TW E (d+78) 70):=by rw[Jt];exact Gq (fun d l er ns=>(Au 11 d l er ns).l) (Dl (d+74)) (pD d) (XI (d+1)) (by decide)
theorem ew (d:Nat):CP (BK 11) (TW E (d+79) 61):=by rw[Jv];exact Co (fun d l er ns=>(Au 11 d l er ns).l) (Dl (d+75)) (JJ (d+76)) (BW (d+74)) (pM d) (XI (d+2)) (by decide)
theorem oR (d:Nat):ES (BK 11) (TW E (d+80) 62):=by rw[Ju];exact En (JJ (d+77)) (J1 (d+73)) (BW (d+75)) (ew d) (W9 (d+4))
theorem oZ (d:Nat):DU (BK 11) (TW E (d+81) 48):=by rw[Jw];exact Ds (Ct (d+79)) (FE (d+79)) (Ga (d+75)) (Dl (d+77)) (Cu (d+79)) (BW (d+76)) (J1 (d+74)) (JC (d+75)) (El (d+74)) (ew (d+1)) (oR d)
theorem W8 (d:Nat):Dg (BK 12) (TW E (d+82) 39):=by rw[JH];exact Ec (Au 11) (Ct (d+80)) (JD (d+80)) (Cu (d+80)) (fun _=>oZ d)
theorem XH (d:Nat):CZ (BK 12) (TW E (d+83) 71):=by rw[Js];exact DF (PX (d+80)) (Dl (d+79)) (JM (d+77)) (W8 d)
theorem pC (d:Nat):Fu (BK 12) (TW E (d+84) 77):=by rw[Jr];exact Gm (fun d l er ns=>(Au 12 d l er ns).l) (Dl (d+80)) (BW (d+79)) (XH d) (by decide)
theorem pL (d:Nat):Fv (BK 12) (TW E (d+85) 70):=by rw[Jt];exact Gq (fun d l er ns=>(Au 12 d l er ns).l) (Dl (d+81)) (pC d) (XH (d+1)) (by decide)
theorem ep (d:Nat):CP (BK 12) (TW E (d+86) 61):=by rw[Jv];exact Co (fun d l er ns=>(Au 12 d l er ns).l) (Dl (d+82)) (JJ (d+83)) (BW (d+81)) (pL d) (XH (d+2)) (by decide)
theorem oQ (d:Nat):ES (BK 12) (TW E (d+87) 62):=by rw[Ju];exact En (JJ (d+84)) (J1 (d+80)) (BW (d+82)) (ep d) (W8 (d+4))
theorem oY (d:Nat):DU (BK 12) (TW E (d+88) 48):=by rw[Jw];exact Ds (Ct (d+86)) (FE (d+86)) (Ga (d+82)) (Dl (d+84)) (Cu (d+86)) (BW (d+83)) (J1 (d+81)) (JC (d+82)) (El (d+81)) (ep (d+1)) (oQ d)
theorem W7 (d:Nat):Dg (BK 13) (TW E (d+89) 39):=by rw[JH];exact Ec (Au 12) (Ct (d+87)) (JD (d+87)) (Cu (d+87)) (fun _=>oY d)
theorem XG (d:Nat):CZ (BK 13) (TW E (d+90) 71):=by rw[Js];exact DF (PX (d+87)) (Dl (d+86)) (JM (d+84)) (W7 d)
theorem pB (d:Nat):Fu (BK 13) (TW E (d+91) 77):=by rw[Jr];exact Gm (fun d l er ns=>(Au 13 d l er ns).l) (Dl (d+87)) (BW (d+86)) (XG d) (by decide)
theorem pK (d:Nat):Fv (BK 13) (TW E (d+92) 70):=by rw[Jt];exact Gq (fun d l er ns=>(Au 13 d l er ns).l) (Dl (d+88)) (pB d) (XG (d+1)) (by decide)
theorem ej (d:Nat):CP (BK 13) (TW E (d+93) 61):=by rw[Jv];exact Co (fun d l er ns=>(Au 13 d l er ns).l) (Dl (d+89)) (JJ (d+90)) (BW (d+88)) (pK d) (XG (d+2)) (by decide)
theorem oP (d:Nat):ES (BK 13) (TW E (d+94) 62):=by rw[Ju];exact En (JJ (d+91)) (J1 (d+87)) (BW (d+89)) (ej d) (W7 (d+4))
theorem oX (d:Nat):DU (BK 13) (TW E (d+95) 48):=by rw[Jw];exact Ds (Ct (d+93)) (FE (d+93)) (Ga (d+89)) (Dl (d+91)) (Cu (d+93)) (BW (d+90)) (J1 (d+88)) (JC (d+89)) (El (d+88)) (ej (d+1)) (oP d)
theorem W6 (d:Nat):Dg (BK 14) (TW E (d+96) 39):=by rw[JH];exact Ec (Au 13) (Ct (d+94)) (JD (d+94)) (Cu (d+94)) (fun _=>oX d)
theorem XF (d:Nat):CZ (BK 14) (TW E (d+97) 71):=by rw[Js];exact DF (PX (d+94)) (Dl (d+93)) (JM (d+91)) (W6 d)
theorem pA (d:Nat):Fu (BK 14) (TW E (d+98) 77):=by rw[Jr];exact Gm (fun d l er ns=>(Au 14 d l er ns).l) (Dl (d+94)) (BW (d+93)) (XF d) (by decide)
theorem pJ (d:Nat):Fv (BK 14) (TW E (d+99) 70):=by rw[Jt];exact Gq (fun d l er ns=>(Au 14 d l er ns).l) (Dl (d+95)) (pA d) (XF (d+1)) (by decide)
theorem eh (d:Nat):CP (BK 14) (TW E (d+100) 61):=by rw[Jv];exact Co (fun d l er ns=>(Au 14 d l er ns).l) (Dl (d+96)) (JJ (d+97)) (BW (d+95)) (pJ d) (XF (d+2)) (by decide)
theorem oO (d:Nat):ES (BK 14) (TW E (d+101) 62):=by rw[Ju];exact En (JJ (d+98)) (J1 (d+94)) (BW (d+96)) (eh d) (W6 (d+4))
theorem oW (d:Nat):DU (BK 14) (TW E (d+102) 48):=by rw[Jw];exact Ds (Ct (d+100)) (FE (d+100)) (Ga (d+96)) (Dl (d+98)) (Cu (d+100)) (BW (d+97)) (J1 (d+95)) (JC (d+96)) (El (d+95)) (eh (d+1)) (oO d)
theorem W5 (d:Nat):Dg (BK 15) (TW E (d+103) 39):=by rw[JH];exact Ec (Au 14) (Ct (d+101)) (JD (d+101)) (Cu (d+101)) (fun _=>oW d)
theorem XE (d:Nat):CZ (BK 15) (TW E (d+104) 71):=by rw[Js];exact DF (PX (d+101)) (Dl (d+100)) (JM (d+98)) (W5 d)
theorem o9 (d:Nat):Fu (BK 15) (TW E (d+105) 77):=by rw[Jr];exact Gm (fun d l er ns=>(Au 15 d l er ns).l) (Dl (d+101)) (BW (d+100)) (XE d) (by decide)
theorem pH (d:Nat):Fv (BK 15) (TW E (d+106) 70):=by rw[Jt];exact Gq (fun d l er ns=>(Au 15 d l er ns).l) (Dl (d+102)) (o9 d) (XE (d+1)) (by decide)
theorem ee (d:Nat):CP (BK 15) (TW E (d+107) 61):=by rw[Jv];exact Co (fun d l er ns=>(Au 15 d l er ns).l) (Dl (d+103)) (JJ (d+104)) (BW (d+102)) (pH d) (XE (d+2)) (by decide)
theorem oN (d:Nat):ES (BK 15) (TW E (d+108) 62):=by rw[Ju];exact En (JJ (d+105)) (J1 (d+101)) (BW (d+103)) (ee d) (W5 (d+4))
theorem oV (d:Nat):DU (BK 15) (TW E (d+109) 48):=by rw[Jw];exact Ds (Ct (d+107)) (FE (d+107)) (Ga (d+103)) (Dl (d+105)) (Cu (d+107)) (BW (d+104)) (J1 (d+102)) (JC (d+103)) (El (d+102)) (ee (d+1)) (oN d)
theorem W4 (d:Nat):Dg (BK 16) (TW E (d+110) 39):=by rw[JH];exact Ec (Au 15) (Ct (d+108)) (JD (d+108)) (Cu (d+108)) (fun _=>oV d)
theorem XD (d:Nat):CZ (BK 16) (TW E (d+111) 71):=by rw[Js];exact DF (PX (d+108)) (Dl (d+107)) (JM (d+105)) (W4 d)
theorem o0 (d:Nat):Fu (BK 16) (TW E (d+112) 77):=by rw[Jr];exact Gm (fun d l er ns=>(Au 16 d l er ns).l) (Dl (d+108)) (BW (d+107)) (XD d) (by decide)
theorem pG (d:Nat):Fv (BK 16) (TW E (d+113) 70):=by rw[Jt];exact Gq (fun d l er ns=>(Au 16 d l er ns).l) (Dl (d+109)) (o0 d) (XD (d+1)) (by decide)
theorem eZ (d:Nat):CP (BK 16) (TW E (d+114) 61):=by rw[Jv];exact Co (fun d l er ns=>(Au 16 d l er ns).l) (Dl (d+110)) (JJ (d+111)) (BW (d+109)) (pG d) (XD (d+2)) (by decide)
theorem oM (d:Nat):ES (BK 16) (TW E (d+115) 62):=by rw[Ju];exact En (JJ (d+112)) (J1 (d+108)) (BW (d+110)) (eZ d) (W4 (d+4))
theorem oU (d:Nat):DU (BK 16) (TW E (d+116) 48):=by rw[Jw];exact Ds (Ct (d+114)) (FE (d+114)) (Ga (d+110)) (Dl (d+112)) (Cu (d+114)) (BW (d+111)) (J1 (d+109)) (JC (d+110)) (El (d+109)) (eZ (d+1)) (oM d)
theorem W3 (d:Nat):Dg (BK 17) (TW E (d+117) 39):=by rw[JH];exact Ec (Au 16) (Ct (d+115)) (JD (d+115)) (Cu (d+115)) (fun _=>oU d)
theorem XB (d:Nat):CZ (BK 17) (TW E (d+118) 71):=by rw[Js];exact DF (PX (d+115)) (Dl (d+114)) (JM (d+112)) (W3 d)
theorem oz (d:Nat):Fu (BK 17) (TW E (d+119) 77):=by rw[Jr];exact Gm (fun d l er ns=>(Au 17 d l er ns).l) (Dl (d+115)) (BW (d+114)) (XB d) (by decide)
theorem pF (d:Nat):Fv (BK 17) (TW E (d+120) 70):=by rw[Jt];exact Gq (fun d l er ns=>(Au 17 d l er ns).l) (Dl (d+116)) (oz d) (XB (d+1)) (by decide)
theorem eY (d:Nat):CP (BK 17) (TW E (d+121) 61):=by rw[Jv];exact Co (fun d l er ns=>(Au 17 d l er ns).l) (Dl (d+117)) (JJ (d+118)) (BW (d+116)) (pF d) (XB (d+2)) (by decide)
theorem oL (d:Nat):ES (BK 17) (TW E (d+122) 62):=by rw[Ju];exact En (JJ (d+119)) (J1 (d+115)) (BW (d+117)) (eY d) (W3 (d+4))
theorem oT (d:Nat):DU (BK 17) (TW E (d+123) 48):=by rw[Jw];exact Ds (Ct (d+121)) (FE (d+121)) (Ga (d+117)) (Dl (d+119)) (Cu (d+121)) (BW (d+118)) (J1 (d+116)) (JC (d+117)) (El (d+116)) (eY (d+1)) (oL d)
theorem jS (d:Nat):Dg (BK 18) (TW E (d+124) 39):=by rw[JH];exact Ec (Au 17) (Ct (d+122)) (JD (d+122)) (Cu (d+122)) (fun _=>oT d)
theorem oK (d:Nat):Dg Ja (TW E (d+124) 39):=by unfold Ja;exact jS d
theorem bu:dY Ja:=by unfold Ja;exact Au 18
theorem bt:Ja.lo=0:=by unfold Ja;rfl
theorem xU (d:Nat):RS Ja (TW E (d+125) 19):=by rw[ABX];exact kc (FE (d+123)) (Cu (d+123)) (BW (d+120)) (oK d) bt
theorem xG (d:Nat):UE Ja (TW E (d+126) 8):=by rw[DE8];exact kB bu (Ct (d+124)) (JJ (d+123)) (PX (d+123)) (BW (d+121)) (xU d) (by decide)
theorem jT (d:Nat):Lv E 600000 (TW E (d+127) 5):=by rw[DE5];exact X2 (xI (d+120)) (xG d)
theorem xAw (d:Nat):MV [] (TW E (d+1) 4):=by
 intro Z ht
 obtain⟨ρ,hf,hr⟩:=qG (e:=nV) (F:=BD E 600000 (TW E d) 4) (Uu (e:=nV) (ρ:=fun x=>x) (args:=[]) (Z:=Z) rfl nY.nil nW.nil)
 exact⟨_,by rw[DE4,hr];rfl,Ff.fr0 WL (by kernel_rfl) hf ht⟩
theorem xMo (d:Nat):MV [.agg zM,.agg zM] (TW E (d+1) 6):=by
 intro Z ht
 obtain⟨ρ,hf,hr⟩:=qG (e:=nU) (F:=tw E d F6) (Uu (e:=nU) (ρ:=fun x=>x) (args:=[.agg zM,.agg zM]) (Z:=Z) rfl nY.nil nW.nil)
 exact⟨_,by rw[DE6,hr];rfl,Ff.fr0 WJ (by kernel_rfl) hf ht⟩
theorem kH (d:Nat) (Z:H) (s:BS) (ht:Ci Z) (hu:OW E Z):∃Z',TW E (d+128) 3 [.str s] Z=some (.bool true,Z')/\Fr BQ Z Z':=by
 rw[DE3]
 exact kI (jT d) (xAw (d+126)) (xMo (d+126)) (by decide) Z s ht hu
end
end
end Go.Proofs.YtnpcmeaplmfdlaaDoor
namespace Go.Proofs.YtnpcmeaplmfdlaaDoor
open Go Go.Og Go.Proofs Go.Shelf
def Fi:Go.Shelf.Ren:=⟨fun | 174=>45 | 247=>54 | 245=>55 | 287=>63 | 279=>64 | 280=>65 | 281=>66 | 282=>67 | 321=>72 | 322=>73 | 316=>74 | 171=>76 | 205=>75 | 243=>79 | 246=>81 | 283=>83 | 284=>84 | 285=>85 | 286=>86 | 129=>88 | 317=>87 | 318=>89 | 319=>90 | 320=>91 | 337=>92 | 338=>93 | n=>n,fun | 9=>9 | 3=>3 | 2=>2 | 75=>93 | 85=>94 | 4=>4 | 167=>120 | 5=>5 | 53=>121 | 175=>122 | 46=>112 | 168=>124 | 37=>40 | 0=>0 | 210=>135 | 21=>21 | 127=>140 | 145=>143 | 143=>141 | 171=>146 | 173=>149 | 212=>153 | 51=>154 | 20=>20 | 213=>155 | 232=>159 | 233=>160 | 80=>161 | n=>n,fun | 15=>2 | 16=>3 | 17=>4 | 18=>5 | 19=>6 | n=>n⟩
theorem XS:Go.Proofs.LaysC.n174 Tryd.prog Fi:={
  mixed:=by kernel_rfl
  f129:=Tryd.func88.trans (congrArg some (by kernel_rfl))
  f171:=Tryd.func76.trans (congrArg some (by kernel_rfl))
  f174:=Tryd.func45.trans (congrArg some (by kernel_rfl))
  f205:=Tryd.func75.trans (congrArg some (by kernel_rfl))
  f243:=Tryd.func79.trans (congrArg some (by kernel_rfl))
  f245:=Tryd.func55.trans (congrArg some (by kernel_rfl))
  f246:=Tryd.func81.trans (congrArg some (by kernel_rfl))
  f247:=Tryd.func54.trans (congrArg some (by kernel_rfl))
  f279:=Tryd.func64.trans (congrArg some (by kernel_rfl))
  f280:=Tryd.func65.trans (congrArg some (by kernel_rfl))
  f281:=Tryd.func66.trans (congrArg some (by kernel_rfl))
  f282:=Tryd.func67.trans (congrArg some (by kernel_rfl))
  f283:=Tryd.func83.trans (congrArg some (by kernel_rfl))
  f284:=Tryd.func84.trans (congrArg some (by kernel_rfl))
  f285:=Tryd.func85.trans (congrArg some (by kernel_rfl))
  f286:=Tryd.func86.trans (congrArg some (by kernel_rfl))
  f287:=Tryd.func63.trans (congrArg some (by kernel_rfl))
  f316:=Tryd.func74.trans (congrArg some (by kernel_rfl))
  f317:=Tryd.func87.trans (congrArg some (by kernel_rfl))
  f318:=Tryd.func89.trans (congrArg some (by kernel_rfl))
  f319:=Tryd.func90.trans (congrArg some (by kernel_rfl))
  f320:=Tryd.func91.trans (congrArg some (by kernel_rfl))
  f321:=Tryd.func72.trans (congrArg some (by kernel_rfl))
  f322:=Tryd.func73.trans (congrArg some (by kernel_rfl))
  f337:=Tryd.func92.trans (congrArg some (by kernel_rfl))
  f338:=Tryd.func93.trans (congrArg some (by kernel_rfl))
  t0:=Tryd.underlying0
  a0:=Tryd.isAgg0
  z0:=Tryd.sizeOf0
  v0:=Tryd.zeroValue0
  t2:=Tryd.underlying2
  a2:=Tryd.isAgg2
  z2:=Tryd.sizeOf2
  v2:=Tryd.zeroValue2
  t3:=Tryd.underlying3
  a3:=Tryd.isAgg3
  z3:=Tryd.sizeOf3
  v3:=Tryd.zeroValue3
  t4:=Tryd.underlying4
  a4:=Tryd.isAgg4
  z4:=Tryd.sizeOf4
  v4:=Tryd.zeroValue4
  t5:=Tryd.underlying5
  a5:=Tryd.isAgg5
  z5:=Tryd.sizeOf5
  v5:=Tryd.zeroValue5
  t9:=Tryd.underlying9
  a9:=Tryd.isAgg9
  z9:=Tryd.sizeOf9
  v9:=Tryd.zeroValue9
  t20:=Tryd.underlying20
  a20:=Tryd.isAgg20
  z20:=Tryd.sizeOf20
  v20:=Tryd.zeroValue20
  t21:=Tryd.underlying21
  a21:=Tryd.isAgg21
  z21:=Tryd.sizeOf21
  v21:=Tryd.zeroValue21
  t37:=Tryd.underlying40
  a37:=Tryd.isAgg40
  z37:=Tryd.sizeOf40
  v37:=Tryd.zeroValue40
  t46:=Tryd.underlying112
  a46:=Tryd.isAgg112
  z46:=Tryd.sizeOf112
  v46:=Tryd.zeroValue112
  t51:=Tryd.underlying154
  a51:=Tryd.isAgg154
  z51:=Tryd.sizeOf154
  v51:=Tryd.zeroValue154
  t53:=Tryd.underlying121
  a53:=Tryd.isAgg121
  z53:=Tryd.sizeOf121
  v53:=Tryd.zeroValue121
  t75:=Tryd.underlying93
  a75:=Tryd.isAgg93
  z75:=Tryd.sizeOf93
  v75:=Tryd.zeroValue93
  t85:=Tryd.underlying94
  a85:=Tryd.isAgg94
  z85:=Tryd.sizeOf94
  v85:=Tryd.zeroValue94
  t127:=Tryd.underlying140
  a127:=Tryd.isAgg140
  z127:=Tryd.sizeOf140
  v127:=Tryd.zeroValue140
  t143:=Tryd.underlying141
  a143:=Tryd.isAgg141
  z143:=Tryd.sizeOf141
  v143:=Tryd.zeroValue141
  t145:=Tryd.underlying143
  a145:=Tryd.isAgg143
  z145:=Tryd.sizeOf143
  v145:=Tryd.zeroValue143
  t167:=Tryd.underlying120
  a167:=Tryd.isAgg120
  z167:=Tryd.sizeOf120
  v167:=Tryd.zeroValue120
  t168:=Tryd.underlying124
  a168:=Tryd.isAgg124
  z168:=Tryd.sizeOf124
  v168:=Tryd.zeroValue124
  t171:=Tryd.underlying146
  a171:=Tryd.isAgg146
  z171:=Tryd.sizeOf146
  v171:=Tryd.zeroValue146
  t173:=Tryd.underlying149
  a173:=Tryd.isAgg149
  z173:=Tryd.sizeOf149
  v173:=Tryd.zeroValue149
  t175:=Tryd.underlying122
  a175:=Tryd.isAgg122
  z175:=Tryd.sizeOf122
  v175:=Tryd.zeroValue122
  t210:=Tryd.underlying135
  a210:=Tryd.isAgg135
  z210:=Tryd.sizeOf135
  v210:=Tryd.zeroValue135
  t212:=Tryd.underlying153
  a212:=Tryd.isAgg153
  z212:=Tryd.sizeOf153
  v212:=Tryd.zeroValue153
  t213:=Tryd.underlying155
  a213:=Tryd.isAgg155
  z213:=Tryd.sizeOf155
  t232:=Tryd.underlying159
  a232:=Tryd.isAgg159
  z232:=Tryd.sizeOf159
  v232:=Tryd.zeroValue159
  t233:=Tryd.underlying160
  a233:=Tryd.isAgg160
  z233:=Tryd.sizeOf160
  v233:=Tryd.zeroValue160
  g15:=by kernel_rfl
  g16:=by kernel_rfl
  g17:=by kernel_rfl
  g18:=by kernel_rfl
  g19:=by kernel_rfl
  t80:=Tryd.underlying161
  a80:=Tryd.isAgg161
  z80:=Tryd.sizeOf161
  v80:=Tryd.zeroValue161
  i0:=by kernel_rfl
  i2:=by kernel_rfl
  i3:=by kernel_rfl
  i4:=by kernel_rfl
  i5:=by kernel_rfl
  i9:=by kernel_rfl
  i20:=by kernel_rfl
  i21:=by kernel_rfl
  i37:=by kernel_rfl
  i46:=by kernel_rfl
  i51:=by kernel_rfl
  i53:=by kernel_rfl
  i75:=by kernel_rfl
  i80:=by kernel_rfl
  i85:=by kernel_rfl
  i127:=by kernel_rfl
  i143:=by kernel_rfl
  i145:=by kernel_rfl
  i167:=by kernel_rfl
  i168:=by kernel_rfl
  i171:=by kernel_rfl
  i173:=by kernel_rfl
  i175:=by kernel_rfl
  i210:=by kernel_rfl
  i212:=by kernel_rfl
  i232:=by kernel_rfl
  i233:=by kernel_rfl
  m15:=by kernel_rfl
  m16:=by kernel_rfl
  m17:=by kernel_rfl
  m18:=by kernel_rfl
  m19:=by kernel_rfl
  c0:=by kernel_rfl
  c2:=by kernel_rfl
  c3:=by kernel_rfl
  c4:=by kernel_rfl
  c5:=by kernel_rfl
  c9:=by kernel_rfl
  c20:=by kernel_rfl
  c21:=by kernel_rfl
  c37:=by kernel_rfl
  c46:=by kernel_rfl
  c51:=by kernel_rfl
  c53:=by kernel_rfl
  c75:=by kernel_rfl
  c80:=by kernel_rfl
  c85:=by kernel_rfl
  c127:=by kernel_rfl
  c143:=by kernel_rfl
  c145:=by kernel_rfl
  c167:=by kernel_rfl
  c168:=by kernel_rfl
  c171:=by kernel_rfl
  c173:=by kernel_rfl
  c175:=by kernel_rfl
  c210:=by kernel_rfl
  c212:=by kernel_rfl
  c213:=by kernel_rfl
  c232:=by kernel_rfl
  c233:=by kernel_rfl }
theorem kU:Fi.f 174=45:=by kernel_rfl
theorem kT:Fi.t 168=124:=by kernel_rfl
theorem Yx:Fi.g 16=3:=by kernel_rfl
theorem cl:Hb Tryd.prog (Fi.f 174)=true:=by kernel_rfl
theorem V3 {E:EB} {ti:TypeId} {u:V} (hE:Go.Og.look E 3=some (.cells [.ifc ti u])):B5 Tryd.prog E glob 45 (Nu 124):=by
 have:=j3 (E:=E) (G:=glob) XS (by rw[Yx];decide) (by rw[Yx];exact hE) cl
 rw[kU,kT]at this
 exact this
noncomputable section
def E5 (tp:TypeId):EB:=[(0,.cells (Wy Gj)),(1,.cells (Wy HB)),(3,.cells [.ifc tp (.ptr 60 0)])]
theorem Vs (tp:TypeId):OW (E5 tp) ⟨100,[]⟩:=⟨AG _,rfl,rfl,rfl,rfl⟩
theorem xw (tp:TypeId):B5 Tryd.prog (E5 tp) glob 45 (Nu pk):=V3 (u := .ptr 60 0) (ti:=tp) rfl
theorem cP (tp:TypeId) (s:BS):wC (F3 (E5 tp) (TW (E5 tp) 127) (A2 (E5 tp) (TW (E5 tp) 127)) 600000 [.str s] ⟨100,[]⟩)=true:=by
 have ht:Ci ⟨100,[]⟩:=fun _ _=>rfl
 obtain⟨Z',g,_⟩:=kH (E:=E5 tp) 0 ⟨100,[]⟩ s ht (Vs tp)
 have h:F3 (E5 tp) (TW (E5 tp) 127) (A2 (E5 tp) (TW (E5 tp) 127)) 600000 [.str s] ⟨100,[]⟩=some (.bool true,Z'):=by
  have e:TW (E5 tp) (0+128) 3=_:=DE3 (E5 tp) 127
  rw[e]at g
  exact g
 rw[h]
 rfl
end
end Go.Proofs.YtnpcmeaplmfdlaaDoor
namespace Go.Proofs.YtnpcmeaplmfdlaaDoor
open Go Go.Og Go.Lib
noncomputable section
theorem SP {W:World} (h:laidMet Tryd.prog [("unicode/utf8.first",tabData .u8 (Gj.map AA))] W) (i:Nat) (hi:i<256):W.cell? ⟨0,0+i,none⟩=some (.int .u8 (AA (Gj.getD i 0))):=by
 have hT:=tabIs_of_head (g:=0) (t:=108) (e:=5) (n:=256) (by kernel_rfl) (by kernel_rfl) Tryd.underlying108 Tryd.underlying5 (by kernel_rfl) (by kernel_rfl) h
 have hl:Gj.length=256:=by decide +kernel
 have hc:=hT.cell (g:=0) (by kernel_rfl) i (by rw[Ea];omega)
 rw[B2,hc]
 rw[BA,Bk,AY (by omega),BA,AY (by omega)]
 rfl
def qX:DataW Unit := .agg ((Hi 16).map fun i => .agg ([AA (HB.getD (2*i) 0),AA (HB.getD (2*i+1) 0)].map fun z => .lit (.int .u8 z)))
theorem Wg {W:World} (h:VarReads Tryd.prog W "unicode/utf8.acceptRanges" qX) (i:Nat) (hi:i<32):W.cell? ⟨1,0+i,none⟩=some (.int .u8 (AA (HB.getD i 0))):=by
  obtain⟨g,t,cs,fuel,p,hg,hty,hvar,hd⟩:=h
  have hg1:Tryd.prog.globalNamed "unicode/utf8.acceptRanges" = some 1:=by kernel_rfl
  obtain rfl:=AK.inj (hg1.symm.trans hg)
  have hy1:(Tryd.prog.globals[1]?).map (·.type)=some 111:=by kernel_rfl
  obtain rfl:=AK.inj (hy1.symm.trans hty)
  have hc2:Tryd.prog.cellsOf 110=2:=by kernel_rfl
  have hc5:Tryd.prog.cellsOf 5=1:=by kernel_rfl
  have key:∀k,k<16->cs[2*k]? = some (.int .u8 (AA (HB.getD (2*k) 0)))/\cs[2*k+1]? = some (.int .u8 (AA (HB.getD (2*k+1) 0))):=by
    intro k hk
    obtain⟨fuel',d,q,hdi,he⟩:=array_elem Tryd.underlying111 hd k hk
    simp only[Bk,bD hk,Bo,AK.injEq]at hdi
    subst hdi
    rw[hc2]at he
    have hcs:=ints_of_struct Tryd.underlying110 (fun j f hj=>by
      match j,hj with
      | 0,hj=>simp at hj;subst hj;exact⟨Tryd.underlying5,rfl,hc5⟩
      | 1,hj=>simp at hj;subst hj;exact⟨Tryd.underlying5,rfl,hc5⟩
      | j+2,hj=>simp at hj) (by rw[hc2];rfl) he
    have e0:=congrArg (·[0]?) hcs
    have e1:=congrArg (·[1]?) hcs
    simp only[DN,CL]at e0 e1
    rw[<-GZ,<-GZ]
    constructor
    · simpa[Nat.mul_comm]using e0
    · simpa[Nat.mul_comm]using e1
  rw[B2,World.var?_cell hg hvar i]
  obtain⟨k,rfl|rfl⟩:∃k,i=2*k\/i=2*k+1:=⟨i / 2,by omega⟩
  · exact(key k (by omega)).1
  · exact(key k (by omega)).2
theorem fC : "*" ++ "errors.errorString" = "*errors.errorString" := by decide
theorem jx (u:TypeId) (h:Tryd.prog.typeName? 3 u=some "*errors.errorString"):u=141:=
 typeName_ptr_named (P:=Tryd.prog) (nm := "errors.errorString") (by rw[fC];kernel_rfl) (by kernel_rfl) (by decide) u (by rw[fC];exact h)
theorem Yj {W:World} {text:List UInt8} (h:laidMet Tryd.prog [("strconv.ErrRange",.iface "*errors.errorString" (.ptr (.agg [.lit (.string text)])))] W):∃a s,W.cell? ⟨3,0,none⟩=some (.iface 141 (.pointer (some a)))/\W.cell? a=some (.string s):=by
 obtain⟨a,s,hv,hc,_,_⟩:=laid_sentinel (g:=3) (ti:=93) h (by kernel_rfl) (by kernel_rfl) Tryd.underlying93 jx Tryd.underlying141 Tryd.underlying143 rfl rfl Tryd.underlying9 (by kernel_rfl) (by kernel_rfl)
 refine⟨a,s,?_,hc⟩
 rw[World.var?_cell (g:=3) (by kernel_rfl) hv 0]
 rfl
theorem yD {w:World} {blk off:Nat} (h0:∀i,i<256->w.cell? ⟨0,0+i,none⟩=some (.int .u8 (AA (Gj.getD i 0)))) (h1:∀i,i<32->w.cell? ⟨1,0+i,none⟩=some (.int .u8 (AA (HB.getD i 0))))
  (h3:w.cell? ⟨3,0,none⟩=some (.iface 141 (.pointer (some ⟨blk,off,none⟩)))):∀id b,Go.Og.look (E5 141) id=some b->∃i,Lr 7 [(60,⟨blk,off,0⟩)] id=some i/\IB (Lr 7 [(60,⟨blk,off,0⟩)]) i b w:=by
 have e0:Wy Gj=(Hi 256).map fun i => .int .u8 (AA (Gj.getD i 0)):=by kernel_rfl
 have e1:Wy HB=(Hi 32).map fun i => .int .u8 (AA (HB.getD i 0)):=by kernel_rfl
 have x0:IB (Lr 7 [(60,⟨blk,off,0⟩)]) ⟨0,0,0⟩ (.cells (Wy Gj)) w:=by rw[e0];exact OD (g:=fun i => .int .u8 (AA (Gj.getD i 0))) (fun i=>⟨rfl,rfl⟩) h0 (by decide)
 have x1:IB (Lr 7 [(60,⟨blk,off,0⟩)]) ⟨1,0,0⟩ (.cells (Wy HB)) w:=by rw[e1];exact OD (g:=fun i => .int .u8 (AA (HB.getD i 0))) (fun i=>⟨rfl,rfl⟩) h1 (by decide)
 have x3:IB (Lr 7 [(60,⟨blk,off,0⟩)]) ⟨3,0,0⟩ (.cells [.ifc 141 (.ptr 60 0)]) w:=
  OD (len:=1) (f:=fun _ => .ifc 141 (.ptr 60 0)) (g:=fun _ => .iface 141 (.pointer (some ⟨blk,off,none⟩))) (fun i=>⟨rfl,rfl⟩) (fun i hi=>by
   have:i=0:=by omega
   subst this
   exact h3) (by decide)
 intro id b hb
 unfold E5 at hb
 simp only[Go.Og.look]at hb
 split at hb
 ·rename_i he
  have:=BO he
  subst this;cases hb
  exact⟨⟨0,0,0⟩,rfl,x0⟩
 ·split at hb
  ·rename_i he
   have:=BO he
   subst this;cases hb
   exact⟨⟨1,0,0⟩,rfl,x1⟩
  ·split at hb
   ·rename_i he
    have:=BO he
    subst this;cases hb
    exact⟨⟨3,0,0⟩,rfl,x3⟩
   ·cases hb
theorem pP (x0:ByteArray) (w:World) (h0:∀i,i<256->w.cell? ⟨0,0+i,none⟩=some (.int .u8 (AA (Gj.getD i 0)))) (h1:∀i,i<32->w.cell? ⟨1,0+i,none⟩=some (.int .u8 (AA (HB.getD i 0))))
  {a:Addr} {s:ByteArray} (h3:w.cell? ⟨3,0,none⟩=some (.iface 141 (.pointer (some a)))) (ha:w.cell? a=some (.string s)):Calls Tryd.prog 3 #[.string x0] w fun e w'=>e = .returned (.bool true)/\RowKit.Below w.heap.size w w':=by
 obtain⟨blk,off,sp⟩:=a
 obtain rfl:sp=none:=by
  cases sp with
  | none=>rfl
  | some q=>
   exfalso
   simp[World.cell?]at ha
   split at ha<;>cases ha
 exact Ti (SF3 (E5 141) (TW (E5 141) 127) (qZ (E5 141) (xw 141) 127) 600000) Yd (by decide:7<=100) [(60,⟨blk,off,0⟩)] [.str (BS.ofList x0.data.toList)] [.string x0] w
  (fun id i h=>by
   simp only[Go.Og.look]at h
   split at h
   ·rename_i he
    have:=BO he
    omega
   ·cases h) (yD h0 h1 h3) (by simp[Az,Ar,BS.toList_ofList]) (cP 141 _)
end
end Go.Proofs.YtnpcmeaplmfdlaaDoor
