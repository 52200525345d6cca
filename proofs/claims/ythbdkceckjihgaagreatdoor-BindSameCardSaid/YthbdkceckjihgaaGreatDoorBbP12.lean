/- du of this claim: P12. -/
import Derived.Test.YthbdkceckjihgaaGreatDoorBbT
import Derived.Test.YthbdkceckjihgaaGreatDoorBbP11
set_option linter.all false
namespace Go.Proofs.YthbdkceckjihgaaGreatDoor
open Go
set_option maxRecDepth 100000

def C7 s{R}(h:nF s=some R):cI aZ 102 [H rS s] (im R):=by
 refine dm Tryz.func102 I<|aY<|bw<|bO<|aH I<|Q (fW (M I) hS)<|aX I<|cq h fun t q_t h=>au I (da I) ?_
 obtain⟨r,h1t,h0t⟩:=og q_t
 have q_rg:=fun Y=>(h1t Y).1
 exact au I (fun D=>bn Qa (FM _ (q_rg D)) ⟨(bF I D),d⟩)<|Q (cV (M I) (fun Y=>(bF I (nR Y))) (fun Y=>(h1t Y).2) h0t)<|be I<|so h▸aq I I

def PE tag{R}(h:tU tag=some R):cI aZ 217 [bd tag] (bd R):=by
 refine dm Tryz.func217 I<|aY<|bG<|bO<|aD<|ai<|aH I<|Q (eP (M I) hI)<|aX I<|au I (da I)<|au I (fun D=>fa (bF I D) hI)<|eu I<|bj I<|mA h I (fun h=>?_) (fun h=>?_)
 ·exact aY<|dJ<|bZ<|so h▸aq I I
 ·refine aH I<|Q (kD (M I) hI)<|bj I<|mA h I (fun h=>?_) (fun h=>?_)
  ·exact aY<|dJ<|bZ<|so h▸aq I I
  ·refine aH I<|Q (kD (M I) hI)<|bj I<|mA h I (fun h=>?_) (fun h=>?_)
   ·exact aY<|dJ<|bZ<|so h▸aq I I
   ·exact bk<|bq<|av<|aY<|dJ<|so h▸aq I I

def Vy v{R}(h:pd v=some R):cI aZ 244 [H ei v] (im R):=by
 refine dm Tryz.func244 I<|aY<|cK I<|bw<|bO<|aT<|ba tB pm cF I<|bO<|ai<|aY<|dw I<|bj I<|mA h I (fun h=>?_) (fun h=>?_)
 ·exact aY<|cC lB I<|Q (bU lB C3 od I)<|Q (xU C9 (M I) (M I))<|be I<|bZ<|so h▸aq I I
 ·refine aY<|dw I<|bj I<|mA h I (fun h=>?_) (fun h=>?_)
  ·refine aY<|ba FK yd KV I<|dw I<|aX I<|ap I (bR pX lc I I)<|ap I (bM jG I I)<|ap I (fun D=>fW (bF I D) hS)<|eV I<|aX I<|ap I (bR u5 pl I I)<|ap I (bM Uy I I)<|ap I (mV I)<|ap I (q7 I)<|ft I I I I (fun D=>oJ u5 pl I I)<|ft I I I I (fun D=>fJ Uy I I (bF I D))<|ft I I I I (fun D=>mg (bF I D) hI)<|ap I (fun D=>DW (bF I D) (fun Y=>(bF I (si D (nR Y)))))<|eV I<|be I ?_;exact bZ<|so h▸aq I I
  ·refine aY<|dw I<|bj I<|mA h I (fun h=>?_) (fun h=>?_)
   ·exact aY<|ba FK yd KV I<|dw I<|aX I<|ap I (bR pX lc I I)<|ap I (bM jG I I)<|ap I (fun D=>fW (bF I D) hS)<|eV I<|be I<|bZ<|so h▸aq I I
   ·refine aY<|dw I<|bj I<|mA h I (fun h=>?_) (fun h=>?_)
    ·exact aY<|ba u5 pl Uy I<|dw I<|aX I<|ap I (bR FK yd I I)<|ap I (bM KV I I)<|ap I (mV I)<|eV I<|aX I<|ap I (bR pX lc I I)<|ap I (bM jG I I)<|ap I (fun D=>nQ gx (bF I D))<|ap I (fun D=>kD (bF I D) hI)<|eV I<|be I<|bZ<|so h▸aq I I
    ·exact bk<|bq<|av<|aY<|ba tB pm cF I<|dw I<|aX I<|ap I (bR pX lc I I)<|ap I (bM jG I I)<|ap I (fun D=>fW (bF I D) hS)<|eV I<|be I<|so h▸aq I I

def PD v{R}(h:tX v=some R):cI aZ 237 [H ei v] (im R):=by
 exact dm Tryz.func237 I<|aY<|cK I<|bw<|bO<|aY<|cC lB I<|eo h aaI (Vy _) (dd I) fun r h=>aX I<|ap I (bR tB pm I I)<|ap I (bM cF I I)<|ap I (tN I)<|eV I<|be I<|so h▸aq I I

def VB v{R}(h:wP v=some R):cI aZ 236 [H ei v] (im R):=by
 refine dm Tryz.func236 I<|aY<|cK I<|bw<|bO<|aT<|ba pX lc jG I<|Q (nQ gx (M I))<|Q (bC hI)<|bO<|ai<|bp ?_;refine ay (sl (h2:=fun n x=>nc v n x=some R) (Of:=fun x=>[]) (Gf:=fun x=>[(1,bt ei v),(6,iK v.S),(7,bd x)]) (fun x h=>nn h) (fun n ih x h=>?_) gi (0:Int) h) (bb I);refine dX<|aY<|sx I<|bO<|aD<|mA h I (fun h=>?_) (fun h=>?_)
 ·refine gC<|aD<|ai<|aH I<|bj I<|aY<|ba pX lc jG I<|aX I<|cq h fun b q_b h=>Q (lM gx (M I) (M I) q_b)<|Q (eP (M I) hI)<|aX I<|cq h fun t q_t h=>au I (bR pX lc I I)<|au I (bM jG I I)<|au I (da I) ?_
  obtain⟨b1,h1t,h0t⟩:=og q_t
  have q_b1g:=fun Y=>(h1t Y).1
  refine au I (fun D=>lM gx (bF I D) (bF I D) (q_b1g D))<|au I (fun D=>fa (bF I D) hI)<|Q (cV (M I) (fun Y=>(bF I (nR Y))) (fun Y=>(h1t Y).2) h0t)<|bY h I (fun h=>?_) (fun h=>?_)
  ·exact aY<|bw<|cw<|bZ<|af<|bZ<|so h▸aq I I
  ·refine bk<|bq<|av<|aJ<|Q (fX (M I) hI)<|aX I<|bz ?_;exact aS (ay (ih (IntKind.i64.wrap (x+(1:Int))) h) (bb I))
 ·exact eY<|aI<|aI<|cW<|av<|aY<|cC lB I<|eo h Xi (PD _) (dd I) fun r h=>aX I<|ap I (bR u5 pl I I)<|ap I (bM Uy I I)<|ap I (fun D=>fh (bF I D) hI)<|eV I<|be I<|so h▸aq I I

def VI n{R}(h:uT n=some R):cI aZ 218 [H dk n] (im R):=by
 refine dm Tryz.func218 I<|aY<|cK I<|bw<|bO<|aT<|ba mh iA cF I<|bO<|ai<|aY<|dw I<|bj I<|mA h I (fun h=>?_) (fun h=>?_)
 ·exact aY<|ba qG mq lB I<|eo h aaL (VB _) (dd I) fun r h=>aX I<|ap I (bR tz pT I I)<|ap I (bM jG I I)<|ap I (fun D=>fW (bF I D) hS)<|eV I<|aX I<|ap I (bR qF nj I I)<|ap I (bM jG I I)<|ap I (fun D=>fW (bF I D) hS)<|eV I<|be I<|bZ<|so h▸aq I I
 ·refine aY<|dw I<|bj I<|mA h I (fun h=>?_) (fun h=>?_)
  ·refine aY<|ba qG mq lB I<|Q (bU lB C3 od I)<|Q (xU C9 (M I) (M I))<|aX I<|cq h fun t q_t h=>ap I (bR qF nj I I)<|ap I (bM jG I I) ?_
   obtain⟨r1,h1t,h0t⟩:=og q_t
   have q_r1g:=fun Y=>(h1t Y).1
   refine ap I (fun D=>bn Qa (FM _ (q_r1g D)) ⟨(bF I D),d⟩)<|Q (bJ (M I) (fun Y=>(bF I Y)) (fun Y=>(h1t Y).2) h0t)<|aX I<|cq h fun t1 q_t1 h=>ap I (bR tz pT I I)<|ap I (bM jG I I) ?_
   obtain⟨r2,h1t1,h0t1⟩:=og q_t1
   have q_r2g:=fun Y=>(h1t1 Y).1
   exact ap I (fun D=>bn Mi (C7 _ (q_r2g D)) ⟨(bF I D),d⟩)<|Q (bJ (M I) (fun Y=>(bF I Y)) (fun Y=>(h1t1 Y).2) h0t1)<|be I<|bZ<|so h▸aq I I
  ·exact bk<|bq<|av<|aY<|ba qG mq lB I<|Q (bU lB C3 od I)<|Q (xU C9 (M I) (M I))<|aX I<|ap I (bR tz pT I I)<|ap I (bM jG I I)<|ap I (fun D=>fW (bF I D) hS)<|eV I<|aX I<|ap I (bR qF nj I I)<|ap I (bM jG I I)<|ap I (fun D=>fW (bF I D) hS)<|eV I<|be I<|so h▸aq I I

def Tv: ∀(fu:Nat) (t:dj) (place:Int) {R:Int×Int} (h:jv fu t place=some R),cI aZ 183 [H bI t,bd place] (tT [bd R.1,bd R.2]):=by
 intro fu
 induction fu with
 |zero=>intro t place R h;exact(nn h).elim
 |succ fu ihR=>
  intro t place R h
  refine dm Tryz.func183 I<|aY<|cK I<|bG<|bG<|bO<|aT<|aX I<|Q (eP (M I) hI)<|aX I<|au I (da I)<|au I (bR j5 eN I I)<|au I (bM sw I I)<|au I (kA oZ I)<|au I (fun D=>fh (bF I D) (bF I D))<|eu I<|bY h I (fun h=>?_) (fun h=>?_)
  ·exact aY<|bG<|dJ<|af<|so h▸cX I I I
  ·refine gC<|aY<|ba j5 eN sw I<|aX I<|cq h fun e q_e h=>dE oZ lS I q_e<|aV lS vY I fun b=>bL lS aj I<|aK 6 I<|bO<|aY<|ba mh iA cF I<|eo h Xj (PE _) (dd I) fun r h=>bj I ?_;refine aT<|aX I<|Q (eP (M I) hI)<|aX I<|cq h fun t1 q_t1 h=>au I (fun D=>qN lS I I) ?_
   obtain⟨r1,h1t1,h0t1⟩:=og q_t1
   have q_r1g:=fun Y=>(h1t1 Y).1
   refine au I (fun D=>bn aaS (VI _ (q_r1g D)) ⟨(bF I D),d⟩)<|au I (sy I)<|Q (cV (M I) (fun Y=>(bF I (nR Y))) (fun Y=>(h1t1 Y).2) h0t1)<|bY h I (fun h=>?_) (fun h=>?_)
   ·exact aY<|bG<|dJ<|af<|so h▸cX I I I
   ·refine gC<|aT<|aX I<|dw I<|bY h I (fun h=>?_) (fun h=>?_)
    ·refine aT<|ba wy ri cF I<|gW I<|aX I<|au I (bR yj sU I I)<|au I (bM cF I I)<|au I (tN I)<|eu I<|bY h I (fun h=>?_) (fun h=>?_)
     ·exact aY<|bG<|dJ<|af<|af<|so h▸cX I I I
     ·exact gC<|aY<|bG<|dJ<|af<|so h▸cX I I I
    ·refine gC<|aY<|cC jY I<|aX I<|Q (fv (M I) hI)<|eo h TY (ihR _ _) (dd I) fun r2 h=>aX I<|cY I I<|cY I I<|gE I<|bj I<|aT<|aX I<|dw I<|bY h I (fun h=>?_) (fun h=>?_)
     ·exact aY<|bG<|dJ<|af<|so h▸cX I I I
     ·refine gC<|aT<|aX I<|dw I<|bY h I (fun h=>?_) (fun h=>?_)
      ·refine aT<|ba wy ri cF I<|aX I<|Q (fv (M I) hI)<|Q (dZ (M I) (M I))<|aX I<|au I (bR yj sU I I)<|au I (bM cF I I)<|au I (tN I)<|eu I<|bY h I (fun h=>?_) (fun h=>?_)
       ·exact aY<|bG<|dJ<|af<|af<|so h▸cX I I I
       ·exact gC<|aH I<|Q (fX (M I) hI)<|aX I<|Q (fX (M I) hI)<|gE I<|be I<|af<|so h▸cX I I I
      ·refine gC<|aY<|cC jY I<|aX I<|Q (fv (M I) hI)<|aX I<|Q (fv (M I) (M I))<|eo h TY (ihR _ _) (dd I) fun r3 h=>aX I<|cY I I<|cY I I<|gE I<|bj I<|aT<|aX I<|dw I<|aX I ?_;refine au I (bR yj sU I I)<|au I (bM cF I I)<|au I (da I)<|au I (fun D=>fv (bF I D) hI)<|au I (fun D=>dZ (bF I D) (bF I D))<|eu I<|aX I<|au I (bR wy ri I I)<|au I (bM cF I I)<|au I (da I)<|au I (fun D=>fv (bF I D) hI)<|au I (da I)<|au I (fun D=>fv (bF I D) (bF I D))<|au I (fun D=>dZ (bF I D) (bF I D))<|eu I<|bY h I (fun h=>?_) (fun h=>?_)
       ·exact aY<|bG<|dJ<|af<|so h▸cX I I I
       ·exact gC<|aH I<|aX I<|Q (fX (M I) (M I))<|Q (fX (M I) hI)<|aX I<|aX I<|Q (FB (M I) (M I))<|Q (fX (M I) hI)<|gE I<|be I<|so h▸cX I I I
def VU t place{R}(h:BH t place=some R):cI aZ 183 [H bI t,bd place] (tT [bd R.1,bd R.2]):=Tv gi t place h

def Ki t{R}(h:mo t=some R):cI aZ 144 [H bI t] (im R):=by
 refine dm Tryz.func144 I<|aY<|cK I<|bw<|bO<|aT<|ba j5 eN sw I<|bW oZ I<|Q (eP (M I) hI)<|aX I<|au I (bR j5 eN I I)<|au I (bM sw I I)<|au I (kA oZ I)<|au I (fun D=>fa (bF I D) hI)<|eu I<|bY h I (fun h=>?_) (fun h=>?_)
 ·exact aY<|bw<|cw<|af<|so h▸aq I I
 ·refine gC<|aY<|cC jY I<|ba j5 eN sw I<|bW oZ I<|Q (fv (M I) hI)<|eo h TY (VU _ _) (dd I) fun r h=>aX I<|cY I I<|cY I I<|gE I<|bj I<|aH I<|ba j5 eN sw I<|bW oZ I ?_;exact Q (mg (M I) (M I))<|aX I<|ap I (da I)<|ap I (fun D=>kD (bF I D) hI)<|eV I<|be I<|so h▸aq I I

def PI s{R}(h:rG s=some R):cI aZ 145 [H bg s] (im R):=by
 refine dm Tryz.func145 I<|aY<|cK I<|bw<|bO<|aY<|ba Eg rf jG I<|eo h Qa (FM _) (dd I) fun r h=>aX I<|cq h fun t q_t h=>ap I (bR Ef re I I)<|ap I (bM jG I I) ?_
 obtain⟨r1,h1t,h0t⟩:=og q_t
 have q_r1g:=fun Y=>(h1t Y).1
 exact ap I (fun D=>bn Mi (C7 _ (q_r1g D)) ⟨(bF I D),d⟩)<|Q (bJ (M I) (fun Y=>(bF I Y)) (fun Y=>(h1t Y).2) h0t)<|be I<|so h▸aq I I

def PH t{R}(h:vv t=some R):cI aZ 147 [H bI t] (im R):=by
 refine dm Tryz.func147 I<|aY<|cK I<|bw<|bO<|aY<|ba j5 eN sw I<|bW oZ I<|dw I<|aX I<|cq h fun t1 q_t1 h=>au I (fun D=>qN jY I I) ?_
 obtain⟨r,h1t1,h0t1⟩:=og q_t1
 have q_rg:=fun Y=>(h1t1 Y).1
 exact au I (fun D=>bn T5 (Ki _ (q_rg D)) ⟨(bF I D),d⟩)<|Q (cV (M I) (fun Y=>(bF I (nR Y))) (fun Y=>(h1t1 Y).2) h0t1)<|be I<|so h▸aq I I

def Wr s{R}(h:tt s=some R):cI aZ 101 [H bh s] (im R):=by
 refine dm Tryz.func101 I<|aY<|cK I<|bw<|bO<|aT<|ba BQ po yG I<|ba qe jb AL I<|bW rs I<|dw I<|Q (CS FS (M I) (M I))<|aX I<|au I (bR qe jb I I)<|au I (bM AL I I)<|au I (kA rs I)<|au I (fun D=>fa (bF I D) hI)<|eu I<|aX I ?_;refine au I (bR wU nH I I)<|au I (bM Gd I I)<|au I (kA yV I)<|au I (fun D=>fa (bF I D) hI)<|eu I<|aX I<|au I (bR wS kH I I)<|au I (bM E6 I I)<|au I (kA y8 I)<|au I (fun D=>fa (bF I D) hI)<|eu I<|bY h I (fun h=>?_) (fun h=>?_)
 ·exact aY<|bw<|cw<|af<|so h▸aq I I
 ·refine gC<|aT<|ba qe jb AL I<|bW rs I<|Q (bC hI)<|bO<|ai<|aO (k:=35) I fun hN=>bp ?_;refine ay (dz (h2:=fun ls i=>(s.Items.drop i=ls)/\lL s ls=some R) (Of:=fun _ i=>[]) (Gf:=fun _ i=>[(1,bt bh s),(35,fm (d9) s.Items),(36,iK s.Items),(37,bd (i:Int))]) (fun i h=>?_) (fun e tl ih i h=>?_) s.Items 0 ⟨I,h⟩) (bb I)
  ·obtain⟨A,h⟩:=h
   refine dh A I<|av<|aT<|ba wU nH Gd I<|bW yV I<|Q (bC hI)<|bO<|ai<|aO (k:=53) I fun hN1=>?_;refine bp ?_;refine ay (dz (h2:=fun ls1 i1=>(s.Joins.drop i1=ls1)/\lK s ls1=some R) (Of:=fun _ i1=>[]) (Gf:=fun _ i1=>[(1,bt bh s),(53,fm (fU) s.Joins),(54,iK s.Joins),(55,bd (i1:Int))]) (fun i1 h=>?_) (fun e1 tl1 ih1 i1 h=>?_) s.Joins 0 ⟨I,h⟩) (bb I)
   ·obtain⟨hx1,h⟩:=h
    refine dh hx1 I<|av<|aT<|ba wS kH E6 I<|bW y8 I<|Q (bC hI)<|bO<|ai<|aO (k:=71) I fun hN2=>?_;refine bp ?_;refine ay (dz (h2:=fun ls2 i2=>(s.Group.drop i2=ls2)/\lJ s ls2=some R) (Of:=fun _ i2=>[]) (Gf:=fun _ i2=>[(1,bt bh s),(71,fm (fI) s.Group),(72,iK s.Group),(73,bd (i2:Int))]) (fun i2 h=>?_) (fun e2 tl2 ih2 i2 h=>?_) s.Group 0 ⟨I,h⟩) (bb I)
    ·obtain⟨hx2,h⟩:=h
     refine dh hx2 I<|av<|aY<|ba J5 ww vU I<|eo h Xo (PI _) (dd I) fun r h=>aX I<|cq h fun t q_t h=>ap I (bR zE rh I I)<|ap I (bM jY I I) ?_
     obtain⟨r1,h1t,h0t⟩:=og q_t
     have q_r1g:=fun Y=>(h1t Y).1
     refine ap I (fun D=>bn Xn (PH _ (q_r1g D)) ⟨(bF I D),d⟩)<|Q (bJ (M I) (fun Y=>(bF I Y)) (fun Y=>(h1t Y).2) h0t)<|aX I<|cq h fun t1 q_t1 h=>ap I (bR wT nG I I)<|ap I (bM jY I I) ?_
     obtain⟨r2,h1t1,h0t1⟩:=og q_t1
     have q_r2g:=fun Y=>(h1t1 Y).1
     exact ap I (fun D=>bn Xn (PH _ (q_r2g D)) ⟨(bF I D),d⟩)<|Q (bJ (M I) (fun Y=>(bF I Y)) (fun Y=>(h1t1 Y).2) h0t1)<|be I<|so h▸aq I I
    ·obtain⟨hx2,h⟩:=h
     refine dg hx2 I<|aD<|ai<|aY<|dE y8 xM I (df hx2)<|aV xM z6 I fun b=>bL xM aj I<|aK 8 I<|bO<|aY<|oK JZ xr I ?_;refine cC jG I<|eo h Qa (FM _) (dd I) fun r3 h=>Q (fV (M I))<|aX I<|cq h fun t2 q_t2 h=>au I (bR J0 xu I I)<|au I (bM jG I I) ?_
     obtain⟨r4,h1t2,h0t2⟩:=og q_t2
     have q_r4g:=fun Y=>(h1t2 Y).1
     refine au I (fun D=>bn Mi (C7 _ (q_r4g D)) ⟨(bF I D),d⟩)<|au I (sy I)<|Q (cV (M I) (fun Y=>(bF I (nR Y))) (fun Y=>(h1t2 Y).2) h0t2)<|bY h I (fun h=>?_) (fun h=>?_)
     ·exact aY<|bw<|cw<|bZ<|af<|bZ<|so h▸aq I I
     ·refine bk<|cR hx2 hN2 I ?_;exact aS (ay (ih2 (i2+1) ⟨cM hx2,h⟩) (bb I))
   ·obtain⟨hx1,h⟩:=h
    refine dg hx1 I<|aD<|ai<|aY<|dE yV xc I (df hx1)<|aV xc Cq I fun b1=>bL xc aj I<|aK 6 I<|bO<|aY<|oK J2 An I ?_;refine cC vU I<|eo h Xo (PI _) (dd I) fun r5 h=>Q (fV (M I))<|aX I<|cq h fun t3 q_t3 h=>au I (bR Eb xv I I)<|au I (bM jY I I) ?_
    obtain⟨r6,h1t3,h0t3⟩:=og q_t3
    have q_r6g:=fun Y=>(h1t3 Y).1
    refine au I (fun D=>bn T5 (Ki _ (q_r6g D)) ⟨(bF I D),d⟩)<|au I (sy I)<|Q (cV (M I) (fun Y=>(bF I (nR Y))) (fun Y=>(h1t3 Y).2) h0t3)<|bY h I (fun h=>?_) (fun h=>?_)
    ·exact aY<|bw<|cw<|bZ<|af<|bZ<|so h▸aq I I
    ·refine bk<|cR hx1 hN1 I ?_;exact aS (ay (ih1 (i1+1) ⟨cM hx1,h⟩) (bb I))
  ·obtain⟨A,h⟩:=h
   refine dg A I<|aD<|ai<|aY<|dE rs o3 I (df A)<|aV o3 th I fun b2=>bL o3 aj I<|aK 4 I<|bO<|aY<|oK rU lN I ?_;refine cC jY I<|eo h T5 (Ki _) (dd I) fun r7 h=>Q (fV (M I))<|aX I<|cq h fun t4 q_t4 h=>au I (bR J1 Ao I I)<|au I (bM jG I I) ?_
   obtain⟨r8,h1t4,h0t4⟩:=og q_t4
   have q_r8g:=fun Y=>(h1t4 Y).1
   refine au I (fun D=>bn Mi (C7 _ (q_r8g D)) ⟨(bF I D),d⟩)<|au I (sy I)<|Q (cV (M I) (fun Y=>(bF I (nR Y))) (fun Y=>(h1t4 Y).2) h0t4)<|bY h I (fun h=>?_) (fun h=>?_)
   ·exact aY<|bw<|cw<|bZ<|af<|bZ<|so h▸aq I I
   ·refine bk<|cR A hN I ?_;exact aS (ay (ih (i+1) ⟨cM A,h⟩) (bb I))

def YU q{R}(h:we q=some R):cI aZ 45 [H cv q] (im R):=by
 refine dm Tryz.func45 I<|aY<|cK I<|bw<|bO<|aT<|ba uA nU E8 I<|bW wL I<|Q (eP (M I) hI)<|aX I<|au I (bR uA nU I I)<|au I (bM E8 I I)<|au I (kA wL I)<|au I (fun D=>fa (bF I D) hI)<|eu I<|aX I<|au I (bR yi pp I I)<|au I (bM H0 I I)<|au I (kA AH I) ?_;refine au I (fun D=>fa (bF I D) hI)<|eu I<|aX I<|au I (bR Eh sS I I)<|au I (bM cF I I)<|au I (fun D=>eP (bF I D) hI)<|eu I<|aX I<|au I (bR Eh sS I I)<|au I (bM cF I I)<|au I (fun D=>fa (bF I D) hI)<|eu I<|bY h I (fun h=>?_) (fun h=>?_)
 ·exact aY<|bw<|cw<|af<|so h▸aq I I
 ·refine gC<|aT<|ba uA nU E8 I<|bW wL I<|Q (bC hI)<|bO<|ai<|aO (k:=34) I fun hN=>bp ?_;refine ay (dz (h2:=fun ls i=>(q.Selects.drop i=ls)/\nd q ls=some R) (Of:=fun _ i=>[]) (Gf:=fun _ i=>[(1,bt cv q),(34,fm (bh) q.Selects),(35,iK q.Selects),(36,bd (i:Int))]) (fun i h=>?_) (fun e tl ih i h=>?_) q.Selects 0 ⟨I,h⟩) (bb I)
  ·obtain⟨A,h⟩:=h
   refine dh A I<|av<|aT<|ba yi pp H0 I<|bW AH I<|Q (bC hI)<|bO<|ai<|aO (k:=45) I fun hN1=>?_;refine bp ?_;refine ay (dz (h2:=fun ls1 i1=>(q.Keys.drop i1=ls1)/\pb ls1=some R) (Of:=fun _ i1=>[]) (Gf:=fun _ i1=>[(45,fm (j0) q.Keys),(46,iK q.Keys),(47,bd (i1:Int))]) (fun i1 h=>?_) (fun e1 tl1 ih1 i1 h=>?_) q.Keys 0 ⟨I,h⟩) (bb I)
   ·obtain⟨hx1,h⟩:=h
    exact dh hx1 I<|av<|aY<|bw<|cw<|so h▸aq I I
   ·obtain⟨hx1,h⟩:=h
    refine dg hx1 I<|aD<|ai<|aY<|dE AH xN I (df hx1)<|aV xN F2 I fun b=>bL xN aj I<|aK 6 I<|bO<|aY<|oK yh rQ I ?_;refine cC jG I<|eo h Mi (C7 _) (dd I) fun r h=>Q (fV (M I))<|aX I<|au I (bR vH pr I I)<|au I (bM cF I I)<|au I (fun D=>eP (bF I D) hI)<|eu I<|aX I<|au I (bR vH pr I I)<|au I (bM cF I I)<|au I (fun D=>fa (bF I D) hI)<|eu I<|aX I<|au I (bR yh rQ I I)<|au I (bM jG I I)<|au I (fun D=>wk (bF I D) hS)<|au I (q7 I)<|ej I I I I (fun D=>oJ vH pr I I)<|ej I I I I (fun D=>fJ cF I I (bF I D))<|ej I I I I (fun D=>dZ (bF I D) hI)<|au I (fun D=>jw (bF I D) (fun Y=>(bF I (si D Y))))<|eu I ?_;refine bY h I (fun h=>?_) (fun h=>?_)
    ·exact aY<|bw<|cw<|bZ<|af<|bZ<|so h▸aq I I
    ·refine bk<|cR hx1 hN1 I ?_;exact aS (ay (ih1 (i1+1) ⟨cM hx1,h⟩) (bb I))
  ·obtain⟨A,h⟩:=h
   refine dg A I<|aD<|ai<|aY<|dE wL qO I (df A)<|aV qO w8 I fun b1=>bL qO aj I<|aK 4 I<|bO<|aY<|cC qO I ?_;refine eo h abL (Wr _) (dd I) fun r1 h=>Q (fV (M I))<|bY h I (fun h=>?_) (fun h=>?_)
   ·exact aY<|bw<|cw<|bZ<|af<|bZ<|so h▸aq I I
   ·refine bk<|cR A hN I ?_;exact aS (ay (ih (i+1) ⟨cM A,h⟩) (bb I))

end Go.Proofs.YthbdkceckjihgaaGreatDoor

