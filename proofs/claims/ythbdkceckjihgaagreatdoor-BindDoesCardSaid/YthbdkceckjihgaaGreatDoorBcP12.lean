/- dm of this claim: P12. -/
import Derived.Test.YthbdkceckjihgaaGreatDoorBcT
import Derived.Test.YthbdkceckjihgaaGreatDoorBcP11
set_option linter.all false
namespace Go.Proofs.YthbdkceckjihgaaGreatDoor
open Go
set_option maxRecDepth 100000

def De s{R}(h:nK s=some R):cN bd 102 [Z rS s] (iD R):=by
 refine dp Tryz.func102 I<|aV<|bC<|bP<|aI I<|d (fW (M I) hS)<|aY I<|cu h fun t q_t h=>ap I (de I) ?_
 obtain⟨r,h1t,h0t⟩:=og q_t
 have q_rg:=fun A=>(h1t A).1
 exact ap I (fun V=>bq Qv (FH _ (q_rg V)) ⟨(bE I V),Q⟩)<|d (cD (M I) (fun A=>(bE I (mD A))) (fun A=>(h1t A).2) h0t)<|bj I<|so h▸au I I

def PY tag{R}(h:tW tag=some R):cN bd 217 [bf tag] (bf R):=by
 refine dp Tryz.func217 I<|aV<|bF<|bP<|aA<|ai<|aI I<|d (eN (M I) hI)<|aY I<|ap I (de I)<|ap I (fun V=>eX (bE I V) hI)<|dU I<|bh I<|lO h I (fun h=>?_) (fun h=>?_)
 ·exact aV<|dG<|bT<|so h▸au I I
 ·refine aI I<|d (kr (M I) hI)<|bh I<|lO h I (fun h=>?_) (fun h=>?_)
  ·exact aV<|dG<|bT<|so h▸au I I
  ·refine aI I<|d (kr (M I) hI)<|bh I<|lO h I (fun h=>?_) (fun h=>?_)
   ·exact aV<|dG<|bT<|so h▸au I I
   ·exact bl<|bn<|aq<|aV<|dG<|so h▸au I I

def Vy v{R}(h:px v=some R):cN bd 244 [Z ek v] (iD R):=by
 refine dp Tryz.func244 I<|aV<|cL I<|bC<|bP<|aR<|aU tB pE cF I<|bP<|ai<|aV<|dn I<|bh I<|lO h I (fun h=>?_) (fun h=>?_)
 ·exact aV<|cM lg I<|d (bS lg C7 om I)<|d (yc Dg (M I) (M I))<|bj I<|bT<|so h▸au I I
 ·refine aV<|dn I<|bh I<|lO h I (fun h=>?_) (fun h=>?_)
  ·refine aV<|aU FF yl Lb I<|dn I<|aY I<|ax I (bQ qa kW I I)<|ax I (bN ja I I)<|ax I (fun V=>fW (bE I V) hS)<|eZ I<|aY I<|ax I (bQ vd pD I I)<|ax I (bN UC I I)<|ax I (mX I)<|ax I (rn I)<|fk I I I I (fun V=>kO vd pD I I)<|fk I I I I (fun V=>eS UC I I (bE I V))<|fk I I I I (fun V=>m6 (bE I V) hI)<|ax I (fun V=>D3 (bE I V) (fun A=>(bE I (sr V (mD A)))))<|eZ I<|bj I ?_;exact bT<|so h▸au I I
  ·refine aV<|dn I<|bh I<|lO h I (fun h=>?_) (fun h=>?_)
   ·exact aV<|aU FF yl Lb I<|dn I<|aY I<|ax I (bQ qa kW I I)<|ax I (bN ja I I)<|ax I (fun V=>fW (bE I V) hS)<|eZ I<|bj I<|bT<|so h▸au I I
   ·refine aV<|dn I<|bh I<|lO h I (fun h=>?_) (fun h=>?_)
    ·exact aV<|aU vd pD UC I<|dn I<|aY I<|ax I (bQ FF yl I I)<|ax I (bN Lb I I)<|ax I (mX I)<|eZ I<|aY I<|ax I (bQ qa kW I I)<|ax I (bN ja I I)<|ax I (fun V=>nT nG (bE I V))<|ax I (fun V=>kr (bE I V) hI)<|eZ I<|bj I<|bT<|so h▸au I I
    ·exact bl<|bn<|aq<|aV<|aU tB pE cF I<|dn I<|aY I<|ax I (bQ qa kW I I)<|ax I (bN ja I I)<|ax I (fun V=>fW (bE I V) hS)<|eZ I<|bj I<|so h▸au I I

def PX v{R}(h:tY v=some R):cN bd 237 [Z ek v] (iD R):=by
 exact dp Tryz.func237 I<|aV<|cL I<|bC<|bP<|aV<|cM lg I<|eg h aaU (Vy _) (da I) fun r h=>aY I<|ax I (bQ tB pE I I)<|ax I (bN cF I I)<|ax I (uI I)<|eZ I<|bj I<|so h▸au I I

def VB v{R}(h:xd v=some R):cN bd 236 [Z ek v] (iD R):=by
 refine dp Tryz.func236 I<|aV<|cL I<|bC<|bP<|aR<|aU qa kW ja I<|d (nT nG (M I))<|d (bB hI)<|bP<|ai<|bp ?_;refine ay (pd (tD:=fun n x=>ni v n x=some R) (Of:=fun x=>[]) (Gf:=fun x=>[(1,bo ek v),(6,iG v.S),(7,bf x)]) (fun x h=>nn h) (fun n ih x h=>?_) fc (0:Int) h) (a8 I);refine dw<|aV<|qq I<|bP<|aA<|lO h I (fun h=>?_) (fun h=>?_)
 ·refine gp<|aA<|ai<|aI I<|bh I<|aV<|aU qa kW ja I<|aY I<|cu h fun b q_b h=>d (lK nG (M I) (M I) q_b)<|d (eN (M I) hI)<|aY I<|cu h fun t q_t h=>ap I (bQ qa kW I I)<|ap I (bN ja I I)<|ap I (de I) ?_
  obtain⟨b1,h1t,h0t⟩:=og q_t
  have q_b1g:=fun A=>(h1t A).1
  refine ap I (fun V=>lK nG (bE I V) (bE I V) (q_b1g V))<|ap I (fun V=>eX (bE I V) hI)<|d (cD (M I) (fun A=>(bE I (mD A))) (fun A=>(h1t A).2) h0t)<|bX h I (fun h=>?_) (fun h=>?_)
  ·exact aV<|bC<|cA<|bT<|af<|bT<|so h▸au I I
  ·refine bl<|bn<|aq<|aL<|d (fq (M I) hI)<|aY I<|br ?_;exact aO (ay (ih (IntKind.i64.wrap (x+(1:Int))) h) (a8 I))
 ·exact ep<|aE<|aE<|cK<|aq<|aV<|cM lg I<|eg h Xl (PX _) (da I) fun r h=>aY I<|ax I (bQ vd pD I I)<|ax I (bN UC I I)<|ax I (fun V=>ff (bE I V) hI)<|eZ I<|bj I<|so h▸au I I

def VI n{R}(h:u4 n=some R):cN bd 218 [Z dd n] (iD R):=by
 refine dp Tryz.func218 I<|aV<|cL I<|bC<|bP<|aR<|aU mf gY cF I<|bP<|ai<|aV<|dn I<|bh I<|lO h I (fun h=>?_) (fun h=>?_)
 ·exact aV<|aU qU lL lg I<|eg h aaX (VB _) (da I) fun r h=>aY I<|ax I (bQ tz oM I I)<|ax I (bN ja I I)<|ax I (fun V=>fW (bE I V) hS)<|eZ I<|aY I<|ax I (bQ qT mo I I)<|ax I (bN ja I I)<|ax I (fun V=>fW (bE I V) hS)<|eZ I<|bj I<|bT<|so h▸au I I
 ·refine aV<|dn I<|bh I<|lO h I (fun h=>?_) (fun h=>?_)
  ·refine aV<|aU qU lL lg I<|d (bS lg C7 om I)<|d (yc Dg (M I) (M I))<|aY I<|cu h fun t q_t h=>ax I (bQ qT mo I I)<|ax I (bN ja I I) ?_
   obtain⟨r1,h1t,h0t⟩:=og q_t
   have q_r1g:=fun A=>(h1t A).1
   refine ax I (fun V=>bq Qv (FH _ (q_r1g V)) ⟨(bE I V),Q⟩)<|d (co (M I) (fun A=>(bE I A)) (fun A=>(h1t A).2) h0t)<|aY I<|cu h fun t1 q_t1 h=>ax I (bQ tz oM I I)<|ax I (bN ja I I) ?_
   obtain⟨r2,h1t1,h0t1⟩:=og q_t1
   have q_r2g:=fun A=>(h1t1 A).1
   exact ax I (fun V=>bq Mx (De _ (q_r2g V)) ⟨(bE I V),Q⟩)<|d (co (M I) (fun A=>(bE I A)) (fun A=>(h1t1 A).2) h0t1)<|bj I<|bT<|so h▸au I I
  ·exact bl<|bn<|aq<|aV<|aU qU lL lg I<|d (bS lg C7 om I)<|d (yc Dg (M I) (M I))<|aY I<|ax I (bQ tz oM I I)<|ax I (bN ja I I)<|ax I (fun V=>fW (bE I V) hS)<|eZ I<|aY I<|ax I (bQ qT mo I I)<|ax I (bN ja I I)<|ax I (fun V=>fW (bE I V) hS)<|eZ I<|bj I<|so h▸au I I

def TF: ∀(fu:Nat) (t:db) (place:Int) {R:Int×Int} (h:jp fu t place=some R),cN bd 183 [Z bD t,bf place] (tT [bf R.1,bf R.2]):=by
 intro fu
 induction fu with
 |zero=>intro t place R h;exact(nn h).elim
 |succ fu ihR=>
  intro t place R h
  refine dp Tryz.func183 I<|aV<|cL I<|bF<|bF<|bP<|aR<|aY I<|d (eN (M I) hI)<|aY I<|ap I (de I)<|ap I (bQ ik dX I I)<|ap I (bN qi I I)<|ap I (gy nb I)<|ap I (fun V=>ff (bE I V) (bE I V))<|dU I<|bX h I (fun h=>?_) (fun h=>?_)
  ·exact aV<|bF<|dG<|af<|so h▸c0 I I I
  ·refine gp<|aV<|aU ik dX qi I<|aY I<|cu h fun e q_e h=>d9 nb ko I q_e<|aX ko wl I fun b=>bM ko aj I<|aQ 6 I<|bP<|aV<|aU mf gY cF I<|eg h Xm (PY _) (da I) fun r h=>bh I ?_;refine aR<|aY I<|d (eN (M I) hI)<|aY I<|cu h fun t1 q_t1 h=>ap I (fun V=>nM ko I I) ?_
   obtain⟨r1,h1t1,h0t1⟩:=og q_t1
   have q_r1g:=fun A=>(h1t1 A).1
   refine ap I (fun V=>bq aa4 (VI _ (q_r1g V)) ⟨(bE I V),Q⟩)<|ap I (rJ I)<|d (cD (M I) (fun A=>(bE I (mD A))) (fun A=>(h1t1 A).2) h0t1)<|bX h I (fun h=>?_) (fun h=>?_)
   ·exact aV<|bF<|dG<|af<|so h▸c0 I I I
   ·refine gp<|aR<|aY I<|dn I<|bX h I (fun h=>?_) (fun h=>?_)
    ·refine aR<|aU wL p8 cF I<|ib I<|aY I<|ap I (bQ yr ru I I)<|ap I (bN cF I I)<|ap I (uI I)<|dU I<|bX h I (fun h=>?_) (fun h=>?_)
     ·exact aV<|bF<|dG<|af<|af<|so h▸c0 I I I
     ·exact gp<|aV<|bF<|dG<|af<|so h▸c0 I I I
    ·refine gp<|aV<|cM iw I<|aY I<|d (fm (M I) hI)<|eg h T5 (ihR _ _) (da I) fun r2 h=>aY I<|cU I I<|cU I I<|gx I<|bh I<|aR<|aY I<|dn I<|bX h I (fun h=>?_) (fun h=>?_)
     ·exact aV<|bF<|dG<|af<|so h▸c0 I I I
     ·refine gp<|aR<|aY I<|dn I<|bX h I (fun h=>?_) (fun h=>?_)
      ·refine aR<|aU wL p8 cF I<|aY I<|d (fm (M I) hI)<|d (du (M I) (M I))<|aY I<|ap I (bQ yr ru I I)<|ap I (bN cF I I)<|ap I (uI I)<|dU I<|bX h I (fun h=>?_) (fun h=>?_)
       ·exact aV<|bF<|dG<|af<|af<|so h▸c0 I I I
       ·exact gp<|aI I<|d (fq (M I) hI)<|aY I<|d (fq (M I) hI)<|gx I<|bj I<|af<|so h▸c0 I I I
      ·refine gp<|aV<|cM iw I<|aY I<|d (fm (M I) hI)<|aY I<|d (fm (M I) (M I))<|eg h T5 (ihR _ _) (da I) fun r3 h=>aY I<|cU I I<|cU I I<|gx I<|bh I<|aR<|aY I<|dn I<|aY I ?_;refine ap I (bQ yr ru I I)<|ap I (bN cF I I)<|ap I (de I)<|ap I (fun V=>fm (bE I V) hI)<|ap I (fun V=>du (bE I V) (bE I V))<|dU I<|aY I<|ap I (bQ wL p8 I I)<|ap I (bN cF I I)<|ap I (de I)<|ap I (fun V=>fm (bE I V) hI)<|ap I (de I)<|ap I (fun V=>fm (bE I V) (bE I V))<|ap I (fun V=>du (bE I V) (bE I V))<|dU I<|bX h I (fun h=>?_) (fun h=>?_)
       ·exact aV<|bF<|dG<|af<|so h▸c0 I I I
       ·exact gp<|aI I<|aY I<|d (fq (M I) (M I))<|d (fq (M I) hI)<|aY I<|aY I<|d (Fx (M I) (M I))<|d (fq (M I) hI)<|gx I<|bj I<|so h▸c0 I I I
def VU t place{R}(h:BQ t place=some R):cN bd 183 [Z bD t,bf place] (tT [bf R.1,bf R.2]):=TF fc t place h

def Kt t{R}(h:ml t=some R):cN bd 144 [Z bD t] (iD R):=by
 refine dp Tryz.func144 I<|aV<|cL I<|bC<|bP<|aR<|aU ik dX qi I<|bY nb I<|d (eN (M I) hI)<|aY I<|ap I (bQ ik dX I I)<|ap I (bN qi I I)<|ap I (gy nb I)<|ap I (fun V=>eX (bE I V) hI)<|dU I<|bX h I (fun h=>?_) (fun h=>?_)
 ·exact aV<|bC<|cA<|af<|so h▸au I I
 ·refine gp<|aV<|cM iw I<|aU ik dX qi I<|bY nb I<|d (fm (M I) hI)<|eg h T5 (VU _ _) (da I) fun r h=>aY I<|cU I I<|cU I I<|gx I<|bh I<|aI I<|aU ik dX qi I<|bY nb I ?_;exact d (m6 (M I) (M I))<|aY I<|ax I (de I)<|ax I (fun V=>kr (bE I V) hI)<|eZ I<|bj I<|so h▸au I I

def Qc s{R}(h:rW s=some R):cN bd 145 [Z be s] (iD R):=by
 refine dp Tryz.func145 I<|aV<|cL I<|bC<|bP<|aV<|aU Ek pH ja I<|eg h Qv (FH _) (da I) fun r h=>aY I<|cu h fun t q_t h=>ax I (bQ Ej pG I I)<|ax I (bN ja I I) ?_
 obtain⟨r1,h1t,h0t⟩:=og q_t
 have q_r1g:=fun A=>(h1t A).1
 exact ax I (fun V=>bq Mx (De _ (q_r1g V)) ⟨(bE I V),Q⟩)<|d (co (M I) (fun A=>(bE I A)) (fun A=>(h1t A).2) h0t)<|bj I<|so h▸au I I

def Qb t{R}(h:vM t=some R):cN bd 147 [Z bD t] (iD R):=by
 refine dp Tryz.func147 I<|aV<|cL I<|bC<|bP<|aV<|aU ik dX qi I<|bY nb I<|dn I<|aY I<|cu h fun t1 q_t1 h=>ap I (fun V=>nM iw I I) ?_
 obtain⟨r,h1t1,h0t1⟩:=og q_t1
 have q_rg:=fun A=>(h1t1 A).1
 exact ap I (fun V=>bq T9 (Kt _ (q_rg V)) ⟨(bE I V),Q⟩)<|d (cD (M I) (fun A=>(bE I (mD A))) (fun A=>(h1t1 A).2) h0t1)<|bj I<|so h▸au I I

def Wr s{R}(h:tp s=some R):cN bd 101 [Z aW s] (iD R):=by
 refine dp Tryz.func101 I<|aV<|cL I<|bC<|bP<|aR<|aU yp mH xV I<|aU ma eK vE I<|bY pe I<|dn I<|d (wA FR (M I) (M I))<|aY I<|ap I (bQ ma eK I I)<|ap I (bN vE I I)<|ap I (gy pe I)<|ap I (fun V=>eX (bE I V) hI)<|dU I<|aY I ?_;refine ap I (bQ mi eJ I I)<|ap I (bN vD I I)<|ap I (gy rD I)<|ap I (fun V=>eX (bE I V) hI)<|dU I<|aY I<|ap I (bQ ri gk I I)<|ap I (bN zp I I)<|ap I (gy wj I)<|ap I (fun V=>eX (bE I V) hI)<|dU I<|bX h I (fun h=>?_) (fun h=>?_)
 ·exact aV<|bC<|cA<|af<|so h▸au I I
 ·refine gp<|aR<|aU ma eK vE I<|bY pe I<|d (bB hI)<|bP<|ai<|aN (k:=35) I fun hN=>bp ?_;refine ay (dx (tD:=fun ls i=>(s.Items.drop i=ls)/\lJ s ls=some R) (Of:=fun _ i=>[]) (Gf:=fun _ i=>[(1,bo aW s),(35,gb (d5) s.Items),(36,iG s.Items),(37,bf (i:Int))]) (fun i h=>?_) (fun e tl ih i h=>?_) s.Items 0 ⟨I,h⟩) (a8 I)
  ·obtain⟨D,h⟩:=h
   refine dh D I<|aq<|aR<|aU mi eJ vD I<|bY rD I<|d (bB hI)<|bP<|ai<|aN (k:=53) I fun hN1=>?_;refine bp ?_;refine ay (dx (tD:=fun ls1 i1=>(s.Joins.drop i1=ls1)/\lI s ls1=some R) (Of:=fun _ i1=>[]) (Gf:=fun _ i1=>[(1,bo aW s),(53,gb (dC) s.Joins),(54,iG s.Joins),(55,bf (i1:Int))]) (fun i1 h=>?_) (fun e1 tl1 ih1 i1 h=>?_) s.Joins 0 ⟨I,h⟩) (a8 I)
   ·obtain⟨hx1,h⟩:=h
    refine dh hx1 I<|aq<|aR<|aU ri gk zp I<|bY wj I<|d (bB hI)<|bP<|ai<|aN (k:=71) I fun hN2=>?_;refine bp ?_;refine ay (dx (tD:=fun ls2 i2=>(s.Group.drop i2=ls2)/\lH s ls2=some R) (Of:=fun _ i2=>[]) (Gf:=fun _ i2=>[(1,bo aW s),(71,gb (fI) s.Group),(72,iG s.Group),(73,bf (i2:Int))]) (fun i2 h=>?_) (fun e2 tl2 ih2 i2 h=>?_) s.Group 0 ⟨I,h⟩) (a8 I)
    ·obtain⟨hx2,h⟩:=h
     refine dh hx2 I<|aq<|aV<|aU Ei rt tQ I<|eg h Xr (Qc _) (da I) fun r h=>aY I<|cu h fun t q_t h=>ax I (bQ xg nL I I)<|ax I (bN iw I I) ?_
     obtain⟨r1,h1t,h0t⟩:=og q_t
     have q_r1g:=fun A=>(h1t A).1
     refine ax I (fun V=>bq Xq (Qb _ (q_r1g V)) ⟨(bE I V),Q⟩)<|d (co (M I) (fun A=>(bE I A)) (fun A=>(h1t A).2) h0t)<|aY I<|cu h fun t1 q_t1 h=>ax I (bQ uF lD I I)<|ax I (bN iw I I) ?_
     obtain⟨r2,h1t1,h0t1⟩:=og q_t1
     have q_r2g:=fun A=>(h1t1 A).1
     exact ax I (fun V=>bq Xq (Qb _ (q_r2g V)) ⟨(bE I V),Q⟩)<|d (co (M I) (fun A=>(bE I A)) (fun A=>(h1t1 A).2) h0t1)<|bj I<|so h▸au I I
    ·obtain⟨hx2,h⟩:=h
     refine dg hx2 I<|aA<|ai<|aV<|d9 wj vB I (cW hx2)<|aX vB Ai I fun b=>bM vB aj I<|aQ 8 I<|bP<|aV<|oU Kb xF I ?_;refine cM ja I<|eg h Qv (FH _) (da I) fun r3 h=>d (fD (M I))<|aY I<|cu h fun t2 q_t2 h=>ap I (bQ Kc xG I I)<|ap I (bN ja I I) ?_
     obtain⟨r4,h1t2,h0t2⟩:=og q_t2
     have q_r4g:=fun A=>(h1t2 A).1
     refine ap I (fun V=>bq Mx (De _ (q_r4g V)) ⟨(bE I V),Q⟩)<|ap I (rJ I)<|d (cD (M I) (fun A=>(bE I (mD A))) (fun A=>(h1t2 A).2) h0t2)<|bX h I (fun h=>?_) (fun h=>?_)
     ·exact aV<|bC<|cA<|bT<|af<|bT<|so h▸au I I
     ·refine bl<|cS hx2 hN2 I ?_;exact aO (ay (ih2 (i2+1) ⟨cO hx2,h⟩) (a8 I))
   ·obtain⟨hx1,h⟩:=h
    refine dg hx1 I<|aA<|ai<|aV<|d9 rD my I (cW hx1)<|aX my uP I fun b1=>bM my aj I<|aQ 6 I<|bP<|aV<|oU Eh vo I ?_;refine cM tQ I<|eg h Xr (Qc _) (da I) fun r5 h=>d (fD (M I))<|aY I<|cu h fun t3 q_t3 h=>ap I (bQ zO sU I I)<|ap I (bN iw I I) ?_
    obtain⟨r6,h1t3,h0t3⟩:=og q_t3
    have q_r6g:=fun A=>(h1t3 A).1
    refine ap I (fun V=>bq T9 (Kt _ (q_r6g V)) ⟨(bE I V),Q⟩)<|ap I (rJ I)<|d (cD (M I) (fun A=>(bE I (mD A))) (fun A=>(h1t3 A).2) h0t3)<|bX h I (fun h=>?_) (fun h=>?_)
    ·exact aV<|bC<|cA<|bT<|af<|bT<|so h▸au I I
    ·refine bl<|cS hx1 hN1 I ?_;exact aO (ay (ih1 (i1+1) ⟨cO hx1,h⟩) (a8 I))
  ·obtain⟨D,h⟩:=h
   refine dg D I<|aA<|ai<|aV<|d9 pe nH I (cW D)<|aX nH tg I fun b2=>bM nH aj I<|aQ 4 I<|bP<|aV<|oU ql j9 I ?_;refine cM iw I<|eg h T9 (Kt _) (da I) fun r7 h=>d (fD (M I))<|aY I<|cu h fun t4 q_t4 h=>ap I (bQ Eg vp I I)<|ap I (bN ja I I) ?_
   obtain⟨r8,h1t4,h0t4⟩:=og q_t4
   have q_r8g:=fun A=>(h1t4 A).1
   refine ap I (fun V=>bq Mx (De _ (q_r8g V)) ⟨(bE I V),Q⟩)<|ap I (rJ I)<|d (cD (M I) (fun A=>(bE I (mD A))) (fun A=>(h1t4 A).2) h0t4)<|bX h I (fun h=>?_) (fun h=>?_)
   ·exact aV<|bC<|cA<|bT<|af<|bT<|so h▸au I I
   ·refine bl<|cS D hN I ?_;exact aO (ay (ih (i+1) ⟨cO D,h⟩) (a8 I))

def YT q{R}(h:wv q=some R):cN bd 45 [Z cw q] (iD R):=by
 refine dp Tryz.func45 I<|aV<|cL I<|bC<|bP<|aR<|aU pJ jv zq I<|bY tL I<|d (eN (M I) hI)<|aY I<|ap I (bQ pJ jv I I)<|ap I (bN zq I I)<|ap I (gy tL I)<|ap I (fun V=>eX (bE I V) hI)<|dU I<|aY I<|ap I (bQ si j8 I I)<|ap I (bN BF I I)<|ap I (gy wZ I) ?_;refine ap I (fun V=>eX (bE I V) hI)<|dU I<|aY I<|ap I (bQ zQ pI I I)<|ap I (bN cF I I)<|ap I (fun V=>eN (bE I V) hI)<|dU I<|aY I<|ap I (bQ zQ pI I I)<|ap I (bN cF I I)<|ap I (fun V=>eX (bE I V) hI)<|dU I<|bX h I (fun h=>?_) (fun h=>?_)
 ·exact aV<|bC<|cA<|af<|so h▸au I I
 ·refine gp<|aR<|aU pJ jv zq I<|bY tL I<|d (bB hI)<|bP<|ai<|aN (k:=34) I fun hN=>bp ?_;refine ay (dx (tD:=fun ls i=>(q.Selects.drop i=ls)/\nj q ls=some R) (Of:=fun _ i=>[]) (Gf:=fun _ i=>[(1,bo cw q),(34,gb (aW) q.Selects),(35,iG q.Selects),(36,bf (i:Int))]) (fun i h=>?_) (fun e tl ih i h=>?_) q.Selects 0 ⟨I,h⟩) (a8 I)
  ·obtain⟨D,h⟩:=h
   refine dh D I<|aq<|aR<|aU si j8 BF I<|bY wZ I<|d (bB hI)<|bP<|ai<|aN (k:=45) I fun hN1=>?_;refine bp ?_;refine ay (dx (tD:=fun ls1 i1=>(q.Keys.drop i1=ls1)/\pu ls1=some R) (Of:=fun _ i1=>[]) (Gf:=fun _ i1=>[(45,gb (je) q.Keys),(46,iG q.Keys),(47,bf (i1:Int))]) (fun i1 h=>?_) (fun e1 tl1 ih1 i1 h=>?_) q.Keys 0 ⟨I,h⟩) (a8 I)
   ·obtain⟨hx1,h⟩:=h
    exact dh hx1 I<|aq<|aV<|bC<|cA<|so h▸au I I
   ·obtain⟨hx1,h⟩:=h
    refine dg hx1 I<|aA<|ai<|aV<|d9 wZ vC I (cW hx1)<|aX vC F0 I fun b=>bM vC aj I<|aQ 6 I<|bP<|aV<|oU yo qI I ?_;refine cM ja I<|eg h Mx (De _) (da I) fun r h=>d (fD (M I))<|aY I<|ap I (bQ vY oz I I)<|ap I (bN cF I I)<|ap I (fun V=>eN (bE I V) hI)<|dU I<|aY I<|ap I (bQ vY oz I I)<|ap I (bN cF I I)<|ap I (fun V=>eX (bE I V) hI)<|dU I<|aY I<|ap I (bQ yo qI I I)<|ap I (bN ja I I)<|ap I (fun V=>va (bE I V) hS)<|ap I (rn I)<|em I I I I (fun V=>kO vY oz I I)<|em I I I I (fun V=>eS cF I I (bE I V))<|em I I I I (fun V=>du (bE I V) hI)<|ap I (fun V=>jr (bE I V) (fun A=>(bE I (sr V A))))<|dU I ?_;refine bX h I (fun h=>?_) (fun h=>?_)
    ·exact aV<|bC<|cA<|bT<|af<|bT<|so h▸au I I
    ·refine bl<|cS hx1 hN1 I ?_;exact aO (ay (ih1 (i1+1) ⟨cO hx1,h⟩) (a8 I))
  ·obtain⟨D,h⟩:=h
   refine dg D I<|aA<|ai<|aV<|d9 tL pj I (cW D)<|aX pj xn I fun b1=>bM pj aj I<|aQ 4 I<|bP<|aV<|cM pj I ?_;refine eg h abT (Wr _) (da I) fun r1 h=>d (fD (M I))<|bX h I (fun h=>?_) (fun h=>?_)
   ·exact aV<|bC<|cA<|bT<|af<|bT<|so h▸au I I
   ·refine bl<|cS D hN I ?_;exact aO (ay (ih (i+1) ⟨cO D,h⟩) (a8 I))

end Go.Proofs.YthbdkceckjihgaaGreatDoor

