/- du of this claim: P14. -/
import Derived.Test.YthbdkceckjihgaaGreatDoorBbT
import Derived.Test.YthbdkceckjihgaaGreatDoorBbP13
set_option linter.all false
namespace Go.Proofs.YthbdkceckjihgaaGreatDoor
open Go
set_option maxRecDepth 100000

def VH tag{R}(h:wd tag=some R):cI aZ 219 [bd tag] (bd R):=by
 refine dm Tryz.func219 I<|aY<|bG<|bO<|aT<|aX I<|dw I<|aX I<|au I (da I)<|au I (fun D=>fh (bF I D) hI)<|au I (q7 I)<|ej I I I I (fun D=>gH I)<|ej I I I I (fun D=>kD (bF I D) hI)<|au I (fun D=>jw (bF I D) (fun Y=>(bF I (si D Y))))<|eu I<|bY h I (fun h=>?_) (fun h=>?_)
 ·exact aY<|dJ<|af<|so h▸aq I I
 ·exact gC<|aH I<|eo h Xj (PE _) (dd I) fun r h=>be I<|so h▸aq I I

def VG n{R}(h:ju n=some R):cI aZ 220 [H br n] (im R):=by
 refine dm Tryz.func220 I<|aY<|cK I<|bw<|bO<|aT<|ba mZ gQ cF I<|bO<|ai<|aY<|dw I<|bj I<|mA h I (fun h=>?_) (fun h=>?_)
 ·exact aY<|ba wB nV lB I<|eo h Xi (PD _) (dd I) fun r h=>aX I<|ap I (bR pW jz I I)<|ap I (bM cF I I)<|ap I (mV I)<|eV I<|be I<|bZ<|so h▸aq I I
 ·refine aY<|dw I<|bj I<|mA h I (fun h=>?_) (fun h=>?_)
  ·exact aY<|ba wB nV lB I<|Q (bU lB C3 od I)<|Q (xU C9 (M I) (M I))<|aX I<|ap I (bR pW jz I I)<|ap I (bM cF I I)<|ap I (fun D=>fh (bF I D) hI)<|eV I<|aX I<|ap I (bR pW jz I I)<|ap I (bM cF I I)<|ap I (fun D=>eP (bF I D) hI)<|eV I<|be I<|bZ<|so h▸aq I I
  ·exact bk<|bq<|av<|aY<|ba wB nV lB I<|Q (bU lB C3 od I)<|Q (xU C9 (M I) (M I))<|aX I<|ap I (bR pW jz I I)<|ap I (bM cF I I)<|ap I (mV I)<|eV I<|be I<|so h▸aq I I

def Tt: ∀(fu:Nat) (e:aW) (place:Int) {R:Int} (h:jt fu e place=some R),cI aZ 187 [H ac e,bd place] (bd R):=by
 intro fu
 induction fu with
 |zero=>intro e place R h;exact(nn h).elim
 |succ fu ihR=>
  intro e place R h
  refine dm Tryz.func187 I<|aY<|cK I<|bG<|bO<|aT<|aX I<|Q (eP (M I) hI)<|aX I<|au I (da I)<|au I (bR j4 gn I I)<|au I (bM sv I I)<|au I (kA mz I)<|au I (fun D=>fh (bF I D) (bF I D))<|eu I<|bY h I (fun h=>?_) (fun h=>?_)
  ·exact aY<|dJ<|af<|so h▸aq I I
  ·refine gC<|aY<|ba j4 gn sv I<|aX I<|cq h fun e1 q_e1 h=>dE mz eJ I q_e1<|aV eJ iS I fun b=>bL eJ aj I<|aK 5 I<|bO<|aY<|ba mZ gQ cF I<|eo h aaR (VH _) (dd I) fun r h=>bj I ?_;refine aT<|aX I<|Q (eP (M I) hI)<|aX I<|cq h fun t q_t h=>au I (fun D=>qN eJ I I) ?_
   obtain⟨r1,h1t,h0t⟩:=og q_t
   have q_r1g:=fun Y=>(h1t Y).1
   refine au I (fun D=>bn aaQ (VG _ (q_r1g D)) ⟨(bF I D),d⟩)<|au I (sy I)<|Q (cV (M I) (fun Y=>(bF I (nR Y))) (fun Y=>(h1t Y).2) h0t)<|bY h I (fun h=>?_) (fun h=>?_)
   ·exact aY<|dJ<|af<|so h▸aq I I
   ·refine gC<|aT<|aX I<|dw I<|bY h I (fun h=>?_) (fun h=>?_)
    ·refine aT<|ba oW mQ cF I<|gW I<|aX I<|au I (bR nX mb I I)<|au I (bM cF I I)<|au I (tN I)<|eu I<|bY h I (fun h=>?_) (fun h=>?_)
     ·exact aY<|dJ<|af<|af<|so h▸aq I I
     ·exact gC<|aY<|dJ<|af<|so h▸aq I I
    ·refine gC<|aY<|cC bD I<|aX I<|Q (fv (M I) hI)<|eo h TX (ihR _ _) (dd I) fun r2 h=>bj I<|aT<|aX I<|dw I<|bY h I (fun h=>?_) (fun h=>?_)
     ·exact aY<|dJ<|af<|so h▸aq I I
     ·refine gC<|aT<|aX I<|dw I<|bY h I (fun h=>?_) (fun h=>?_)
      ·refine aT<|ba oW mQ cF I<|aX I<|Q (fv (M I) hI)<|Q (dZ (M I) (M I))<|aX I<|au I (bR nX mb I I)<|au I (bM cF I I)<|au I (tN I)<|eu I<|bY h I (fun h=>?_) (fun h=>?_)
       ·exact aY<|dJ<|af<|af<|so h▸aq I I
       ·exact gC<|aH I<|Q (fX (M I) hI)<|be I<|af<|so h▸aq I I
      ·refine gC<|aY<|cC bD I<|aX I<|Q (fv (M I) hI)<|aX I<|Q (fv (M I) (M I))<|eo h TX (ihR _ _) (dd I) fun r3 h=>bj I<|aT<|aX I<|dw I<|aX I<|au I (bR nX mb I I)<|au I (bM cF I I)<|au I (da I)<|au I (fun D=>fv (bF I D) hI) ?_;refine au I (fun D=>dZ (bF I D) (bF I D))<|eu I<|aX I<|au I (bR oW mQ I I)<|au I (bM cF I I)<|au I (da I)<|au I (fun D=>fv (bF I D) hI)<|au I (da I)<|au I (fun D=>fv (bF I D) (bF I D))<|au I (fun D=>dZ (bF I D) (bF I D))<|eu I<|bY h I (fun h=>?_) (fun h=>?_)
       ·exact aY<|dJ<|af<|so h▸aq I I
       ·exact gC<|aH I<|aX I<|Q (fX (M I) (M I))<|Q (fX (M I) hI)<|be I<|so h▸aq I I
def VR e place{R}(h:BG e place=some R):cI aZ 187 [H ac e,bd place] (bd R):=Tt gi e place h

def Wb e{R}(h:wc e=some R):cI aZ 153 [H ac e] (im R):=by
 refine dm Tryz.func153 I<|aY<|cK I<|bw<|bO<|aD<|cq h fun t q_t h=>?_
 obtain⟨r,h1t,h0t⟩:=og q_t
 have q_rg:=fun Y=>(h1t Y).1
 refine eI (ts:=[_,_,_,_,_,_,_,_,_,_,_,_,_,_,_,_,_,_,_,_,_,_,_]) mixed I I
  ⟨ug 1 I I (oJ j4 gn I I),
  ⟨jX 0 sv I I,
  ⟨ga 4 1 I I (zln mz I),
  ⟨ga 5 2 I I (fh (M I) hI),
  ⟨ga 6 3 I I (gH I),
  ⟨su 1 7 4 I I I (j6 I I I I (fun D=>oJ j4 gn I I)),
  ⟨ml 8 5 7 4 I I I (j6 I I I I (fun D=>fJ sv I I (bF I D))),
  ⟨ml 9 6 7 4 I I I (j6 I I I I (fun D=>fN mz (bF I D))),
  ⟨ml 10 7 7 4 I I I (j6 I I I I (fun D=>kD (bF I D) hI)),
  ⟨fg 7 4 11 8 I I I (zpa I I),
  ⟨ga 12 9 I I (gH I),
  ⟨su 1 13 10 I I I (j6 I I I I (fun D=>qN bD I I)),
  ⟨su 1 13 10 I I I (j6 I I I I (fun D=>oJ j4 gn I I)),
  ⟨ml 15 12 13 10 I I I (j6 I I I I (fun D=>fJ sv I I (bF I D))),
  ⟨ml 16 13 13 10 I I I (j6 I I I I (fun D=>fN mz (bF I D))),
  ⟨ml 17 14 13 10 I I I (j6 I I I I (fun D=>fv (bF I D) hI)),
  ⟨tM 14 11 18 15 13 10 I I I I (j6 I I I I (fun D=>bn TX (VR _ _ (q_rg D)) ⟨(bF I D),(bF I D),d⟩)),
  ⟨su 1 13 10 I I I (j6 I I I I (fun D=>oJ j4 gn I I)),
  ⟨ml 20 17 13 10 I I I (j6 I I I I (fun D=>fJ sv I I (bF I D))),
  ⟨ml 21 18 13 10 I I I (j6 I I I I (fun D=>fN mz (bF I D))),
  ⟨tM 19 16 22 19 13 10 I I I I (j6 I I I I (fun D=>mg (bF I D) (bF I D))),
  ⟨fg 13 10 23 20 I I I (bJ (M I) (fun Y=>(bF I Y)) (fun Y=>(h1t Y).2) h0t),
  ⟨ga 24 21 I I (AW I),
  d⟩⟩⟩⟩⟩⟩⟩⟩⟩⟩⟩⟩⟩⟩⟩⟩⟩⟩⟩⟩⟩⟩⟩ ?_
 exact av<|wY<|so h▸aq I I

def FL k want{R}(h:qQ k want=some R):cI aZ 188 [bd k,bd want] (im R):=by
 exact dm Tryz.func188 I<|aY<|bw<|bO<|aH I<|aX I<|Q (mg (M I) (M I))<|aX I<|au I (da I)<|au I (mV I)<|eu I<|be I<|so h▸aq I I

def Wa tag l r{R}(h:sN tag l r=some R):cI aZ 154 [bd tag,bd l,bd r] (tT [bd R.1,im R.2]):=by
 refine dm Tryz.func154 I<|aY<|bG<|bw<|bO<|aD<|ai<|aH I<|dw I<|aX I<|au I (da I)<|au I (fun D=>fh (bF I D) hI)<|au I (q7 I)<|ej I I I I (fun D=>gH I)<|ej I I I I (fun D=>kD (bF I D) hI)<|au I (fun D=>jw (bF I D) (fun Y=>(bF I (si D Y))))<|eu I<|bj I ?_;refine mA h I (fun h=>?_) (fun h=>?_)
 ·refine aH I<|eo h PY (FL _ _) (dd I) fun r1 h=>aX I<|cq h fun t q_t h=>ap I (da I) ?_
  obtain⟨r2,h1t,h0t⟩:=og q_t
  have q_r2g:=fun Y=>(h1t Y).1
  exact ap I (fun D=>bn PY (FL _ _ (q_r2g D)) ⟨(bF I D),hI,d⟩)<|Q (bJ (M I) (fun Y=>(bF I Y)) (fun Y=>(h1t Y).2) h0t)<|bG<|be I<|bZ<|so h▸cX I I I
 ·refine aH I<|dw I<|aX I<|au I (da I)<|au I (fun D=>fh (bF I D) hI)<|eu I<|bj I<|mA h I (fun h=>?_) (fun h=>?_)
  ·refine aH I<|eo h PY (FL _ _) (dd I) fun r3 h=>aX I<|cq h fun t1 q_t1 h=>ap I (da I) ?_
   obtain⟨r4,h1t1,h0t1⟩:=og q_t1
   have q_r4g:=fun Y=>(h1t1 Y).1
   exact ap I (fun D=>bn PY (FL _ _ (q_r4g D)) ⟨(bF I D),hI,d⟩)<|Q (bJ (M I) (fun Y=>(bF I Y)) (fun Y=>(h1t1 Y).2) h0t1)<|bG<|be I<|bZ<|so h▸cX I I I
  ·refine aH I<|dw I<|aX I<|au I (da I)<|au I (mV I)<|eu I<|bj I<|mA h I (fun h=>?_) (fun h=>?_)
   ·exact aY<|bG<|bw<|cw<|bZ<|so h▸cX I I I
   ·exact bk<|bq<|av<|aH I<|aX I<|Q (mg (M I) (M I))<|aX I<|au I (da I)<|au I (mV I)<|eu I<|aX I<|au I (da I)<|au I (mV I)<|eu I<|bG<|be I<|so h▸cX I I I

def FO e kinds{R}(h:qR e kinds=some R):cI aZ 109 [H ac e,pE kinds] (tT [bd R.1,bd R.2]):=by
 refine dm Tryz.func109 I<|aY<|cK I<|bG<|bG<|bO<|aT<|cC bD I<|eo h abo (Wb _) (dd I) fun r h=>Q (fV (M I))<|bY h I (fun h=>?_) (fun h=>?_)
 ·exact aY<|bG<|dJ<|af<|so h▸cX I I I
 ·refine gC<|aT<|aX I<|bW fH I<|Q (bC hI)<|bO<|ai<|aO (k:=20) I fun hN=>bp ?_;refine ay (dz (h2:=fun ls i=>(kinds.drop i=ls)/\qo e kinds ls=some R) (Of:=fun _ i=>[]) (Gf:=fun _ i=>[(1,pE kinds),(2,bt ac e),(20,pE kinds),(21,iK kinds),(22,bd (i:Int))]) (fun i h=>?_) (fun e1 tl ih i h=>?_) kinds 0 ⟨I,h⟩) (bb I)
  ·obtain⟨A,h⟩:=h
   refine dh A I<|av<|aT<|ba j4 gn sv I<|bW mz I<|Q (bC hI)<|bO<|ai<|aO (k:=34) I fun hN1=>?_;refine bp ?_;refine ay (dz (h2:=fun ls1 i1=>(e.Nodes.drop i1=ls1)/\oy e kinds ls1=some R) (Of:=fun _ i1=>[]) (Gf:=fun _ i1=>[(1,pE kinds),(2,bt ac e),(34,fm (br) e.Nodes),(35,iK e.Nodes),(36,bd (i1:Int))]) (fun i1 h=>?_) (fun e2 tl1 ih1 i1 h=>?_) e.Nodes 0 ⟨I,h⟩) (bb I)
   ·obtain⟨hx1,h⟩:=h
    refine dh hx1 I<|av<|aY<|cj false aP 3<|Q (cg y6)<|bO<|aT<|ba j4 gn sv I ?_;refine bW mz I<|Q (bC hI)<|bO<|ai<|aO (k:=52) I fun hN2=>bp ?_;refine ay (jF (h2:=fun ls2 i2 own l c=>(e.Nodes.drop i2=ls2)/\dU kinds ls2 own=some R) (Of:=fun _ i2 own l c=>[gb aP 3 l c own]) (Gf:=fun _ i2 own l c=>[(1,pE kinds),(10,sn l c own),(52,fm (br) e.Nodes),(53,iK e.Nodes),(54,bd (i2:Int))]) (fun i2 own l c h=>?_) (fun e3 tl2 ih2 i2 own l c h=>?_) e.Nodes 0 w9 none 0 ⟨I,h⟩) (bb I)
    ·obtain⟨hx2,h⟩:=h
     refine dh hx2 I<|av<|aH I<|aX I<|Q (iv fH (.head _) (M I))<|Q (fv (M I) hI)<|cq h fun e4 q_e4 h=>Q (cy fH cF (.head _) (M I) (M I) q_e4)<|Q (dQ (r:=aP) (i:=(IntKind.i64.wrap ((own.length:Int)-(1:Int)))) (foff:=0) cF I I cD I (.head _) q_e4 (M I))<|gE I<|bG ?_;exact cw<|aM<|so h▸cX I I I
    ·obtain⟨hx2,h⟩:=h
     refine dg hx2 I<|aD<|ai<|aY<|dE mz eJ I (df hx2)<|aV eJ iS I fun b=>bL eJ aj I<|aK 12 I<|bO<|ai<|aY ?_;refine ba mZ gQ cF I<|dw I<|bj I<|mA h I (fun h=>?_) (fun h=>?_)
     ·refine aJ<|aX I<|oK wB nV I<|ba tB pm cF I<|Q (a8 (r:=aP) (ys:=[e3.Value.Kind]) (xs:=[.tmp 92]) fH cF I I I I I ⟨(M I),d⟩)<|cq h fun own1 q_own1 h=>d8 cF I I I I fH I I (M I) (M I) q_own1 fun l1 c1=>gE I<|bz<|bq<|cR hx2 hN2 I ?_;exact aS (ay (ih2 (i2+1) own1 l1 c1 ⟨cM hx2,h⟩) (bb I))
     ·refine aY<|ba mZ gQ cF I<|dw I<|bj I<|mA h I (fun h=>?_) (fun h=>?_)
      ·refine aJ<|aX I<|aX I<|ba pW jz cF I<|cq h fun e5 q_e5 h=>dE fH cF I q_e5<|Q (a8 (r:=aP) (ys:=[e5]) (xs:=[.tmp 104]) fH cF I I I I I ⟨(M I),d⟩)<|cq h fun own2 q_own2 h=>d8 cF I I I I fH I I (M I) (M I) q_own2 fun l2 c2=>gE I<|bz<|bq<|cR hx2 hN2 I ?_;exact aS (ay (ih2 (i2+1) own2 l2 c2 ⟨cM hx2,h⟩) (bb I))
      ·refine aH I<|ba oW mQ cF I<|cq h fun e6 q_e6 h=>Q (cy fH cF (.head _) (M I) (M I) q_e6)<|Q (dQ (r:=aP) (i:=e3.L) (foff:=0) cF I I cD I (.head _) q_e6 (M I))<|gE I<|bG<|bO ?_;refine ig (h2:=fun r1=>qp (dU kinds tl2) e3 own e6 r1=some R) (Of:=fun r1=>[gb aP 3 l c own]) (Gf:=fun r1=>[(1,pE kinds),(10,sn l c own),(12,bt br e3),(13,bd e6),(14,bd r1),(52,fm (br) e.Nodes),(53,iK e.Nodes),(54,bd (i2:Int))]) (fun r1 h=>?_) (fun ax=>?_)
       ·skip
        refine aY<|ba mZ gQ cF I<|aX I<|aX I<|eo h abn (Wa _ _ _) (dd I) fun r2 h=>aX I<|cY I I<|cY I I<|gE I<|bj I<|aT<|aX I<|Q (fV (M I))<|bY h I (fun h=>?_) (fun h=>?_)
        ·exact aY<|bG<|dJ<|af<|xF<|bZ<|af<|bZ<|aM<|so h▸cX I I I
        ·refine gC<|aJ<|aX I<|aX I<|Q (a8 (r:=aP) (ys:=[r2.1]) (xs:=[.tmp 82]) fH cF I I I I I ⟨(M I),d⟩)<|cq h fun own3 q_own3 h=>d8 cF I I I I fH I I (M I) (M I) q_own3 fun l3 c3=>gE I<|bz<|bq<|cR hx2 hN2 I ?_;exact aS (ay (ih2 (i2+1) own3 l3 c3 ⟨cM hx2,h⟩) (bb I))
       ·skip
        refine aY<|ba nX mb cF I<|Q (fh (M I) hI)<|bY h I (fun h=>?_) (fun h=>?_)
        ·refine aJ<|aX I<|ba nX mb cF I<|cq h fun e7 q_e7 h=>Q (cy fH cF (.head _) (M I) (M I) q_e7)<|Q (dQ (r:=aP) (i:=e3.R) (foff:=0) cF I I cD I (.head _) q_e7 (M I))<|gE I<|bz ?_;exact cm (ax e7 h) (bb I)
        ·refine bk ?_;exact cm (ax (0:Int) h) (bb I)
   ·obtain⟨hx1,h⟩:=h
    refine dg hx1 I<|aD<|ai<|aY<|dE mz eJ I (df hx1)<|aV eJ iS I fun b1=>bL eJ aj I<|aK 9 I<|bO<|aY<|oK mZ gQ I ?_;refine cC cF I<|dw I<|aX I<|ap I (bR pW jz I I)<|ap I (bM cF I I)<|ap I (da I)<|ap I (kA fH I)<|ap I (fun D=>fh (bF I D) (bF I D))<|eV I<|bY h I (fun h=>?_) (fun h=>?_)
    ·exact aY<|bG<|dJ<|bZ<|af<|bZ<|so h▸cX I I I
    ·refine bk<|cR hx1 hN1 I ?_;exact aS (ay (ih1 (i1+1) ⟨cM hx1,h⟩) (bb I))
  ·obtain⟨A,h⟩:=h
   refine dg A I<|aD<|ai<|aY<|dE fH cF I (df A)<|bj I<|aH I<|Q (eP (M I) hI)<|aX I ?_;refine au I (da I)<|au I (fun D=>fa (bF I D) hI)<|eu I<|bY h I (fun h=>?_) (fun h=>?_)
   ·exact aY<|bG<|dJ<|bZ<|af<|bZ<|so h▸cX I I I
   ·refine bk<|cR A hN I ?_;exact aS (ay (ih (i+1) ⟨cM A,h⟩) (bb I))

def PG a1 kinds{R}(h:qk a1 kinds=some R):cI aZ 152 [H aN a1,pE kinds] (tT [bd R.1,im R.2]):=by
 refine dm Tryz.func152 I<|aY<|cK I<|bG<|bw<|bO<|aT<|ba qd ll cF I<|dw I<|bY h I (fun h=>?_) (fun h=>?_)
 ·exact aY<|bG<|bw<|cw<|af<|so h▸cX I I I
 ·refine gC<|aY<|ba vG qy bD I<|aX I<|eo h Qc (FO _ _) (dd I) fun r h=>aX I<|cY I I<|cY I I<|gE I<|bj I<|aT<|aX I<|gW I<|aX I<|au I (bR qd ll I I)<|au I (bM cF I I) ?_;refine au I (mV I)<|au I (q7 I)<|ej I I I I (fun D=>gH I)<|ej I I I I (fun D=>dZ (bF I D) hI)<|au I (fun D=>jw (bF I D) (fun Y=>(bF I (si D Y))))<|au I (q7 I)<|ej I I I I (fun D=>gH I)<|ej I I I I (fun D=>dZ (bF I D) hI)<|au I (fun D=>jw (bF I D) (fun Y=>(bF I (si D Y))))<|eu I<|bY h I (fun h=>?_) (fun h=>?_)
  ·exact aY<|bG<|bw<|cw<|af<|so h▸cX I I I
  ·refine gC<|aT<|ba qd ll cF I<|dw I<|aX I<|au I (bR qd ll I I)<|au I (bM cF I I)<|au I (mV I)<|eu I<|bY h I (fun h=>?_) (fun h=>?_)
   ·exact aY<|bG<|bw<|cw<|af<|so h▸cX I I I
   ·exact gC<|aH I<|gE I<|bw<|cw<|so h▸cX I I I

def L6 c s{R}(h:ja c s=some R):jE aZ 108 [H bK c,H bm s] false aP 3 R:=by
 refine jE.of Tryz.func108 I I I fun w0 S0=>aY<|cK I<|cK I<|cj false aP 3<|Q (cg y6)<|bO<|aY<|cC qa I<|ba pu pV fL I<|F8 h RK (Kc _ _) (dd I) fun r h l c1=>bj I<|aY<|cj false aP 3<|Q (cg y6)<|bz ?_;refine av<|aT<|ba rW rR fL I<|bW fH I<|Q (bC hI)<|bO<|ai<|aO (k:=18) I fun hN=>bp<|ki<|yA<|ie ?_;refine ay (jF (h2:=fun ls i out l1 c2=>(s.Keys.drop i=ls)/\jL s r ls out=some R) (Of:=fun _ i out l1 c2=>[gb aP 3 l c1 r,gb aP 3 l1 c2 out]) (Gf:=fun _ i out l1 c2=>[(3,bt bm s),(5,sn l c1 r),(6,sn l1 c2 out),(18,pE s.Keys),(19,iK s.Keys),(20,bd (i:Int))]) (fun i out l1 c2 h=>?_) (fun e tl ih i out l1 c2 h=>?_) s.Keys 0 w9 none 0 ⟨I,h⟩) (bb I)
 ·obtain⟨A,h⟩:=h
  refine dh A I<|av<|aT<|ba mR ku wM I<|bW sE I<|Q (bC hI)<|bO<|ai<|aO (k:=33) I fun hN1=>?_;refine bp<|Eu<|HM 5 I ?_;refine ay (jF (h2:=fun ls1 i1 out1 l2 c3=>(s.Aggs.drop i1=ls1)/\jK r ls1 out1=some R) (Of:=fun _ i1 out1 l2 c3=>[K aP 3 l c1 r,gb aP 3 l2 c3 out1]) (Gf:=fun _ i1 out1 l2 c3=>[(5,tO aP l c1 r),(6,sn l2 c3 out1),(33,fm (aN) s.Aggs),(34,iK s.Aggs),(35,bd (i1:Int))]) (fun i1 out1 l2 c3 h=>?_) (fun e1 tl1 ih1 i1 out1 l2 c3 h=>?_) s.Aggs 0 out l1 c2 ⟨I,h⟩) (bb I)
  ·obtain⟨hx1,h⟩:=h
   exact dh hx1 I<|av<|aH I<|be I<|dM<|so h▸m6 I I
  ·obtain⟨hx1,h⟩:=h
   refine dg hx1 I<|aD<|ai<|aY<|dE sE p9 I (df hx1)<|aV p9 Br I fun b=>bL p9 aj I<|aK 10 I<|bO<|aY<|cC p9 I ?_;refine aX I<|eo h Xm (PG _ _) ⟨(M I),(kB (M I)),d⟩ fun r1 h=>aX I<|cY I I<|cY I I<|gE I<|bj I<|aJ<|aX I<|aX I<|Q (a8 (r:=aP) (ys:=[r1.1]) (xs:=[.tmp 46]) fH cF I I I I I ⟨(M I),d⟩)<|dW<|cq h fun out2 q_out2 h=>d8 cF I I I I fH I I (M I) (M I) q_out2 fun l3 c4=>gE I<|bz<|bq<|av<|aJ<|Q (zin (PV hx1 hN1) I)<|aX I ?_;refine bz<|dM ?_;exact aS (ay (ih1 (i1+1) out2 l3 c4 ⟨cM hx1,h⟩) (bb I))
 ·obtain⟨A,h⟩:=h
  refine dg A I<|aD<|ai<|aY<|dE fH cF I (df A)<|bj I<|aJ<|aX I<|aX I<|aX I<|cq h fun e2 q_e2 h=>?_;refine Q (cy fH cF (.head _) (M I) (M I) q_e2)<|Q (dQ (r:=aP) (i:=e) (foff:=0) cF I I cD I (.head _) q_e2 (M I))<|Q (a8 (r:=aP) (ys:=[e2]) (xs:=[.tmp 28]) fH cF I I I I I ⟨(M I),d⟩)<|dW<|cq h fun out3 q_out3 h=>d8 cF I I I I fH I I (M I) (M I) q_out3 fun l4 c5=>gE I<|bz<|cR A hN I<|dM ?_;exact aS (ay (ih (i+1) out3 l4 c5 ⟨cM A,h⟩) (bb I))
def PR c s{R}(h:ja c s=some R):cI aZ 108 [H bK c,H bm s] (pE R):=(L6 _ _ h).spec

end Go.Proofs.YthbdkceckjihgaaGreatDoor

