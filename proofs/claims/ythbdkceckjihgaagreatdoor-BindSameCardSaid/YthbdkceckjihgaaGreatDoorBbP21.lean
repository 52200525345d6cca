/- du of this claim: P21. -/
import Derived.Test.YthbdkceckjihgaaGreatDoorBbT
import Derived.Test.YthbdkceckjihgaaGreatDoorBbP20
set_option linter.all false
namespace Go.Proofs.YthbdkceckjihgaaGreatDoor
open Go
set_option maxRecDepth 100000

def YL p y{R}(h:jg p y=some R):cI aZ 64 [H aw p,H aw y] (im R):=by
 refine dm Tryz.func64 I<|aY<|cK I<|cK I<|bw<|bO<|aY<|ba J4 yg yG I<|ba J4 yg yG I<|Q (FD FS (M I) (M I))<|aX I<|cq h fun t q_t h=>ap I (bR J3 yf I I)<|ap I (bM bD I I)<|ap I (bR J3 yf I I)<|ap I (bM bD I I) ?_
 obtain⟨r,h1t,h0t⟩:=og q_t
 have q_rg:=fun Y=>(h1t Y).1
 exact ap I (fun D=>bn RJ (Ei _ _ (q_rg D)) ⟨(bF I D),(bF I D),d⟩)<|Q (bJ (M I) (fun Y=>(bF I Y)) (fun Y=>(h1t Y).2) h0t)<|be I<|so h▸aq I I

def YK p y{R}(h:jf p y=some R):cI aZ 66 [H aN p,H aN y] (im R):=by
 refine dm Tryz.func66 I<|aY<|cK I<|cK I<|bw<|bO<|aY<|ba qd ll cF I<|ba qd ll cF I<|Q (mg (M I) (M I))<|aX I<|cq h fun t q_t h=>ap I (bR vG qy I I)<|ap I (bM bD I I)<|ap I (bR vG qy I I)<|ap I (bM bD I I) ?_
 obtain⟨r,h1t,h0t⟩:=og q_t
 have q_rg:=fun Y=>(h1t Y).1
 exact ap I (fun D=>bn RJ (Ei _ _ (q_rg D)) ⟨(bF I D),(bF I D),d⟩)<|Q (bJ (M I) (fun Y=>(bF I Y)) (fun Y=>(h1t Y).2) h0t)<|be I<|so h▸aq I I

def YJ s1 s2{R}(h:jq s1 s2=some R):cI aZ 67 [fm (rS) s1,fm (rS) s2] (im R):=by
 refine dm Tryz.func67 I<|aY<|bw<|bO<|aT<|aX I<|bW qK I<|aX I<|bW qK I<|Q (dZ (M I) (M I))<|bY h I (fun h=>?_) (fun h=>?_)
 ·exact aY<|bw<|cw<|af<|so h▸aq I I
 ·refine gC<|aT<|aX I<|bW qK I<|Q (bC hI)<|bO<|ai<|aO (k:=11) I fun hN=>bp ?_;refine ay (dz (h2:=fun ls i=>(s1.drop i=ls)/\iu s2 ls i=some R) (Of:=fun _ i=>[]) (Gf:=fun _ i=>[(0,fm (rS) s1),(1,fm (rS) s2),(12,iK s1),(13,bd (i:Int))]) (fun i h=>?_) (fun e tl ih i h=>?_) s1 0 ⟨I,h⟩) (bb I)
  ·obtain⟨A,h⟩:=h
   exact dh A I<|av<|aY<|bw<|cw<|so h▸aq I I
  ·obtain⟨A,h⟩:=h
   refine dg A I<|aD<|ai<|aH I<|bj I<|aD<|cq h fun e1 q_e1 h=>?_
   refine eI (ts:=[_,_,_,_,_,_,_,_,_]) mixed I I
    ⟨f8 I I,
    ⟨f8 I I,
    ⟨fg 16 0 17 1 I I I (Cc qK jG I I I (df A)),
    ⟨jX 2 jG I I,
    ⟨f8 I I,
    ⟨f8 I I,
    ⟨fg 20 4 21 5 I I I (Cc qK jG I I I q_e1),
    ⟨jX 6 jG I I,
    ⟨fg 19 3 23 7 I I I (wk (M I) (M I)),
    d⟩⟩⟩⟩⟩⟩⟩⟩⟩ ?_
   refine av<|mA h I (fun h=>?_) (fun h=>?_)
   ·exact aY<|bw<|cw<|bZ<|af<|bZ<|so h▸aq I I
   ·refine bk<|cR A hN I ?_;exact aS (ay (ih (i+1) ⟨cM A,h⟩) (bb I))

def NR s1 s2{R}(h:iU s1 s2=some R):cI aZ 68 [pE s1,pE s2] (im R):=by
 refine dm Tryz.func68 I<|aY<|bw<|bO<|aT<|aX I<|bW fH I<|aX I<|bW fH I<|Q (dZ (M I) (M I))<|bY h I (fun h=>?_) (fun h=>?_)
 ·exact aY<|bw<|cw<|af<|so h▸aq I I
 ·refine gC<|aT<|aX I<|bW fH I<|Q (bC hI)<|bO<|ai<|aO (k:=11) I fun hN=>bp ?_;refine ay (dz (h2:=fun ls i=>(s1.drop i=ls)/\kN s2 ls i=some R) (Of:=fun _ i=>[]) (Gf:=fun _ i=>[(0,pE s1),(1,pE s2),(12,iK s1),(13,bd (i:Int))]) (fun i h=>?_) (fun e tl ih i h=>?_) s1 0 ⟨I,h⟩) (bb I)
  ·obtain⟨A,h⟩:=h
   exact dh A I<|av<|aY<|bw<|cw<|so h▸aq I I
  ·obtain⟨A,h⟩:=h
   refine dg A I<|aD<|ai<|aH I<|bj I<|aD<|cq h fun e1 q_e1 h=>?_
   refine eI (ts:=[_,_,_,_,_,_,_,_,_]) mixed I I
    ⟨f8 I I,
    ⟨f8 I I,
    ⟨fg 16 0 17 1 I I I (Cc fH cF I I I (df A)),
    ⟨jX 2 cF I I,
    ⟨f8 I I,
    ⟨f8 I I,
    ⟨fg 20 4 21 5 I I I (Cc fH cF I I I q_e1),
    ⟨jX 6 cF I I,
    ⟨fg 19 3 23 7 I I I (dZ (M I) (M I)),
    d⟩⟩⟩⟩⟩⟩⟩⟩⟩ ?_
   refine av<|mA h I (fun h=>?_) (fun h=>?_)
   ·exact aY<|bw<|cw<|bZ<|af<|bZ<|so h▸aq I I
   ·refine bk<|cR A hN I ?_;exact aS (ay (ih (i+1) ⟨cM A,h⟩) (bb I))

def YI s1 s2{R}(h:iG s1 s2=some R):cI aZ 69 [fm (gY) s1,fm (gY) s2] (im R):=by
 refine dm Tryz.func69 I<|aY<|bw<|bO<|aT<|aX I<|bW Cg I<|aX I<|bW Cg I<|Q (dZ (M I) (M I))<|bY h I (fun h=>?_) (fun h=>?_)
 ·exact aY<|bw<|cw<|af<|so h▸aq I I
 ·refine gC<|aT<|aX I<|bW Cg I<|Q (bC hI)<|bO<|ai<|aO (k:=11) I fun hN=>bp ?_;refine ay (dz (h2:=fun ls i=>(s1.drop i=ls)/\gI s2 ls i=some R) (Of:=fun _ i=>[]) (Gf:=fun _ i=>[(0,fm (gY) s1),(1,fm (gY) s2),(12,iK s1),(13,bd (i:Int))]) (fun i h=>?_) (fun e tl ih i h=>?_) s1 0 ⟨I,h⟩) (bb I)
  ·obtain⟨A,h⟩:=h
   exact dh A I<|av<|aY<|bw<|cw<|so h▸aq I I
  ·obtain⟨A,h⟩:=h
   refine dg A I<|aD<|ai<|aH I<|bj I<|aD<|cq h fun e1 q_e1 h=>?_
   refine eI (ts:=[_,_,_,_,_,_,_,_,_]) mixed I I
    ⟨f8 I I,
    ⟨f8 I I,
    ⟨fg 16 0 17 1 I I I (Cc Cg Ct I I I (df A)),
    ⟨jX 2 Ct I I,
    ⟨f8 I I,
    ⟨f8 I I,
    ⟨fg 20 4 21 5 I I I (Cc Cg Ct I I I q_e1),
    ⟨jX 6 Ct I I,
    ⟨fg 19 3 23 7 I I I (xT aaA (M I) (M I)),
    d⟩⟩⟩⟩⟩⟩⟩⟩⟩ ?_
   refine av<|mA h I (fun h=>?_) (fun h=>?_)
   ·exact aY<|bw<|cw<|bZ<|af<|bZ<|so h▸aq I I
   ·refine bk<|cR A hN I ?_;exact aS (ay (ih (i+1) ⟨cM A,h⟩) (bb I))

def YH s1 s2 eq{R}(h:cO s1 s2 eq=some R):cI aZ 70 [fm (bm) s1,fm (bm) s2,(gV aZ UN yE (fun(x:aL×aL)=>eq x.1 x.2))] (im R):=by
 refine dm Tryz.func70 I<|aY<|bw<|bO<|aT<|aX I<|bW Bm I<|aX I<|bW Bm I<|Q (dZ (M I) (M I))<|bY h I (fun h=>?_) (fun h=>?_)
 ·exact aY<|bw<|cw<|af<|so h▸aq I I
 ·refine gC<|aT<|aX I<|bW Bm I<|Q (bC hI)<|bO<|ai<|aO (k:=15) I fun hN=>bp ?_;refine ay (dz (h2:=fun ls i=>(s1.drop i=ls)/\cL s2 eq ls i=some R) (Of:=fun _ i=>[]) (Gf:=fun _ i=>[(1,fm (bm) s2),(2,(gV aZ UN yE (fun(x:aL×aL)=>eq x.1 x.2))),(15,fm (bm) s1),(16,iK s1),(17,bd (i:Int))]) (fun i h=>?_) (fun e tl ih i h=>?_) s1 0 ⟨I,h⟩) (bb I)
  ·obtain⟨A,h⟩:=h
   exact dh A I<|av<|aY<|bw<|cw<|so h▸aq I I
  ·obtain⟨A,h⟩:=h
   refine dg A I<|aD<|ai<|aH I<|dE Bm vn I (df A)<|aV vn xJ I fun b=>gE I<|bL vn aj I<|aK 8 I<|bO<|aD ?_;refine aJ<|aX I<|aX I<|cq h fun e1 q_e1 h=>dE Bm vn I q_e1<|aV vn xJ I fun b1=>bL vn aj I<|aK 9 I<|bO<|aH I<|cC vn I<|cC vn I<|cq h fun r q_r h=>Q (iE (args:=UN) (res:=F3) (f:=(fun(x:aL×aL)=>eq x.1 x.2)) (x:=((e,e1):aL×aL)) (M I) q_r ⟨(M I),(M I),d⟩)<|Q (fV (M I))<|bY h I (fun h=>?_) (fun h=>?_)
   ·exact aY<|bw<|cw<|bZ<|af<|bZ<|so h▸aq I I
   ·refine bk<|cR A hN I ?_;exact aS (ay (ih (i+1) ⟨cM A,h⟩) (bb I))

def YF s1 s2 eq{R}(h:dr s1 s2 eq=some R):cI aZ 72 [fm (aw) s1,fm (aw) s2,(gV aZ Sf yE (fun(x:ew×ew)=>eq x.1 x.2))] (im R):=by
 refine dm Tryz.func72 I<|aY<|bw<|bO<|aT<|aX I<|bW AJ I<|aX I<|bW AJ I<|Q (dZ (M I) (M I))<|bY h I (fun h=>?_) (fun h=>?_)
 ·exact aY<|bw<|cw<|af<|so h▸aq I I
 ·refine gC<|aT<|aX I<|bW AJ I<|Q (bC hI)<|bO<|ai<|aO (k:=15) I fun hN=>bp ?_;refine ay (dz (h2:=fun ls i=>(s1.drop i=ls)/\de s2 eq ls i=some R) (Of:=fun _ i=>[]) (Gf:=fun _ i=>[(1,fm (aw) s2),(2,(gV aZ Sf yE (fun(x:ew×ew)=>eq x.1 x.2))),(15,fm (aw) s1),(16,iK s1),(17,bd (i:Int))]) (fun i h=>?_) (fun e tl ih i h=>?_) s1 0 ⟨I,h⟩) (bb I)
  ·obtain⟨A,h⟩:=h
   exact dh A I<|av<|aY<|bw<|cw<|so h▸aq I I
  ·obtain⟨A,h⟩:=h
   refine dg A I<|aD<|ai<|aH I<|dE AJ yY I (df A)<|aV yY Cr I fun b=>gE I<|bL yY aj I<|aK 8 I<|bO<|aD ?_;refine aJ<|aX I<|aX I<|cq h fun e1 q_e1 h=>dE AJ yY I q_e1<|aV yY Cr I fun b1=>bL yY aj I<|aK 9 I<|bO<|aH I<|cC yY I<|cC yY I<|cq h fun r q_r h=>Q (iE (args:=Sf) (res:=F3) (f:=(fun(x:ew×ew)=>eq x.1 x.2)) (x:=((e,e1):ew×ew)) (M I) q_r ⟨(M I),(M I),d⟩)<|Q (fV (M I))<|bY h I (fun h=>?_) (fun h=>?_)
   ·exact aY<|bw<|cw<|bZ<|af<|bZ<|so h▸aq I I
   ·refine bk<|cR A hN I ?_;exact aS (ay (ih (i+1) ⟨cM A,h⟩) (bb I))

def YE s1 s2 eq{R}(h:dY s1 s2 eq=some R):cI aZ 73 [fm (aN) s1,fm (aN) s2,(gV aZ Sb yE (fun(x:f9×f9)=>eq x.1 x.2))] (im R):=by
 refine dm Tryz.func73 I<|aY<|bw<|bO<|aT<|aX I<|bW sE I<|aX I<|bW sE I<|Q (dZ (M I) (M I))<|bY h I (fun h=>?_) (fun h=>?_)
 ·exact aY<|bw<|cw<|af<|so h▸aq I I
 ·refine gC<|aT<|aX I<|bW sE I<|Q (bC hI)<|bO<|ai<|aO (k:=15) I fun hN=>bp ?_;refine ay (dz (h2:=fun ls i=>(s1.drop i=ls)/\dD s2 eq ls i=some R) (Of:=fun _ i=>[]) (Gf:=fun _ i=>[(1,fm (aN) s2),(2,(gV aZ Sb yE (fun(x:f9×f9)=>eq x.1 x.2))),(15,fm (aN) s1),(16,iK s1),(17,bd (i:Int))]) (fun i h=>?_) (fun e tl ih i h=>?_) s1 0 ⟨I,h⟩) (bb I)
  ·obtain⟨A,h⟩:=h
   exact dh A I<|av<|aY<|bw<|cw<|so h▸aq I I
  ·obtain⟨A,h⟩:=h
   refine dg A I<|aD<|ai<|aH I<|dE sE p9 I (df A)<|aV p9 Br I fun b=>gE I<|bL p9 aj I<|aK 8 I<|bO<|aD ?_;refine aJ<|aX I<|aX I<|cq h fun e1 q_e1 h=>dE sE p9 I q_e1<|aV p9 Br I fun b1=>bL p9 aj I<|aK 9 I<|bO<|aH I<|cC p9 I<|cC p9 I<|cq h fun r q_r h=>Q (iE (args:=Sb) (res:=F3) (f:=(fun(x:f9×f9)=>eq x.1 x.2)) (x:=((e,e1):f9×f9)) (M I) q_r ⟨(M I),(M I),d⟩)<|Q (fV (M I))<|bY h I (fun h=>?_) (fun h=>?_)
   ·exact aY<|bw<|cw<|bZ<|af<|bZ<|so h▸aq I I
   ·refine bk<|cR A hN I ?_;exact aS (ay (ih (i+1) ⟨cM A,h⟩) (bb I))

def YD s1 s2 eq{R}(h:dA s1 s2 eq=some R):cI aZ 74 [fm (ac) s1,fm (ac) s2,(gV aZ XR yE (fun(x:aW×aW)=>eq x.1 x.2))] (im R):=by
 refine dm Tryz.func74 I<|aY<|bw<|bO<|aT<|aX I<|bW mX I<|aX I<|bW mX I<|Q (dZ (M I) (M I))<|bY h I (fun h=>?_) (fun h=>?_)
 ·exact aY<|bw<|cw<|af<|so h▸aq I I
 ·refine gC<|aT<|aX I<|bW mX I<|Q (bC hI)<|bO<|ai<|aO (k:=15) I fun hN=>bp ?_;refine ay (dz (h2:=fun ls i=>(s1.drop i=ls)/\dv s2 eq ls i=some R) (Of:=fun _ i=>[]) (Gf:=fun _ i=>[(1,fm (ac) s2),(2,(gV aZ XR yE (fun(x:aW×aW)=>eq x.1 x.2))),(15,fm (ac) s1),(16,iK s1),(17,bd (i:Int))]) (fun i h=>?_) (fun e tl ih i h=>?_) s1 0 ⟨I,h⟩) (bb I)
  ·obtain⟨A,h⟩:=h
   exact dh A I<|av<|aY<|bw<|cw<|so h▸aq I I
  ·obtain⟨A,h⟩:=h
   refine dg A I<|aD<|ai<|aH I<|dE mX bD I (df A)<|aV bD cQ I fun b=>gE I<|bL bD aj I<|aK 8 I<|bO<|aD ?_;refine aJ<|aX I<|aX I<|cq h fun e1 q_e1 h=>dE mX bD I q_e1<|aV bD cQ I fun b1=>bL bD aj I<|aK 9 I<|bO<|aH I<|cC bD I<|cC bD I<|cq h fun r q_r h=>Q (iE (args:=XR) (res:=F3) (f:=(fun(x:aW×aW)=>eq x.1 x.2)) (x:=((e,e1):aW×aW)) (M I) q_r ⟨(M I),(M I),d⟩)<|Q (fV (M I))<|bY h I (fun h=>?_) (fun h=>?_)
   ·exact aY<|bw<|cw<|bZ<|af<|bZ<|so h▸aq I I
   ·refine bk<|cR A hN I ?_;exact aS (ay (ih (i+1) ⟨cM A,h⟩) (bb I))

def YG join agg p y{R}(h:nI join agg p y=some R):cI aZ 71 [H bm p,H bm y,bt (rT ((gV aZ Sf yE (fun(x:ew×ew)=>join x.1 x.2)))) (),bt (rT ((gV aZ Sb yE (fun(x:f9×f9)=>agg x.1 x.2)))) ()] (im R):=by
 refine dm Tryz.func71 I<|aY<|cK I<|cK I<|bw<|bO<|aY<|ba rX iJ yG I<|ba rX iJ yG I<|Q (FD FS (M I) (M I))<|aX I<|ap I (bR Ec uY I I)<|ap I (bM yG I I)<|ap I (bR Ec uY I I)<|ap I (bM yG I I)<|ap I (fun D=>FD FS (bF I D) (bF I D))<|eV I<|aX I<|cq h fun t q_t h=>?_;refine ap I (bR pu pV I I)<|ap I (bM fL I I)<|ap I (bR pu pV I I)<|ap I (bM fL I I) ?_
 obtain⟨r,h1t,h0t⟩:=og q_t
 have q_rg:=fun Y=>(h1t Y).1
 refine ap I (fun D=>bn Zl (NR _ _ (q_rg D)) ⟨(bF I D),(bF I D),d⟩)<|Q (bJ (M I) (fun Y=>(bF I Y)) (fun Y=>(h1t Y).2) h0t)<|aX I<|cq h fun t1 q_t1 h=>ap I (bR rW rR I I)<|ap I (bM fL I I)<|ap I (bR rW rR I I)<|ap I (bM fL I I) ?_
 obtain⟨r1,h1t1,h0t1⟩:=og q_t1
 have q_r1g:=fun Y=>(h1t1 Y).1
 refine ap I (fun D=>bn Zl (NR _ _ (q_r1g D)) ⟨(bF I D),(bF I D),d⟩)<|Q (bJ (M I) (fun Y=>(bF I Y)) (fun Y=>(h1t1 Y).2) h0t1)<|bj I<|aH I<|aX I<|cq h fun t2 q_t2 h=>ap I (bR Ee u0 I I)<|ap I (bM bD I I)<|ap I (bR Ee u0 I I)<|ap I (bM bD I I) ?_
 obtain⟨r2,h1t2,h0t2⟩:=og q_t2
 have q_r2g:=fun Y=>(h1t2 Y).1
 refine ap I (fun D=>bn RJ (Ei _ _ (q_r2g D)) ⟨(bF I D),(bF I D),d⟩)<|Q (bJ (M I) (fun Y=>(bF I Y)) (fun Y=>(h1t2 Y).2) h0t2)<|aX I<|cq h fun t3 q_t3 h=>ap I (bR Ed uZ I I)<|ap I (bM bD I I)<|ap I (bR Ed uZ I I)<|ap I (bM bD I I) ?_
 obtain⟨r3,h1t3,h0t3⟩:=og q_t3
 have q_r3g:=fun Y=>(h1t3 Y).1
 refine ap I (fun D=>bn RJ (Ei _ _ (q_r3g D)) ⟨(bF I D),(bF I D),d⟩)<|Q (bJ (M I) (fun Y=>(bF I Y)) (fun Y=>(h1t3 Y).2) h0t3)<|bj I<|aH I<|aX I<|cq h fun t4 q_t4 h=>ap I (bR sW lz I I)<|ap I (bM DA I I)<|ap I (bR sW lz I I)<|ap I (bM DA I I)<|ap I (fun D=>qu Sn (M I)) ?_
 obtain⟨r4,h1t4,h0t4⟩:=og q_t4
 have q_r4g:=fun Y=>(h1t4 Y).1
 refine ap I (fun D=>bn acx (YF _ _ _ (q_r4g D)) ⟨(bF I D),(bF I D),(bF I D),d⟩)<|Q (bJ (M I) (fun Y=>(bF I Y)) (fun Y=>(h1t4 Y).2) h0t4)<|aX I<|cq h fun t5 q_t5 h=>ap I (bR mR ku I I)<|ap I (bM wM I I)<|ap I (bR mR ku I I)<|ap I (bM wM I I)<|ap I (fun D=>qu Sm (M I)) ?_
 obtain⟨r5,h1t5,h0t5⟩:=og q_t5
 have q_r5g:=fun Y=>(h1t5 Y).1
 refine ap I (fun D=>bn acw (YE _ _ _ (q_r5g D)) ⟨(bF I D),(bF I D),(bF I D),d⟩)<|Q (bJ (M I) (fun Y=>(bF I Y)) (fun Y=>(h1t5 Y).2) h0t5)<|aX I<|cq h fun t6 q_t6 h=>ap I (bR qX pU I I)<|ap I (bM Bw I I)<|ap I (bR qX pU I I)<|ap I (bM Bw I I) ?_
 obtain⟨r6,h1t6,h0t6⟩:=og q_t6
 have q_r6g:=fun Y=>(h1t6 Y).1
 exact ap I (fun D=>bn acv (YD _ _ _ (q_r6g D)) ⟨(bF I D),(bF I D),(UE RJ fun x y h=>Ei _ _ h),d⟩)<|Q (bJ (M I) (fun Y=>(bF I Y)) (fun Y=>(h1t6 Y).2) h0t6)<|be I<|so h▸aq I I

def Tq a1 b{R}(h:xy a1 b=some R):cI aZ 20 [H bQ a1,H bQ b] (im R):=by
 refine dm Tryz.func20 I<|aY<|cK I<|cK I<|bw<|bO<|aY<|aV (r:=rV) (x:= .nilFunc) Sn (fun _=>⟨I,I⟩) I fun b1=>fA (dq (r' :=rT (Sd)) (x' :=()) (q:=rT (Sd)) (y:=()) Sn I (gk I) I (M I) (Yh JL (show bf _ _ _ (Sd)from(UE acD fun x y h=>YL _ _ h)))) fun _=>?_;refine(show RG _ _ _ _ (bx (rT (Sd)) 153 b1 ()::_) _ from ?_);refine aK 5 I<|bO<|aY<|aV (r:=rV) (x:= .nilFunc) Sm (fun _=>⟨I,I⟩) I fun b2=>fA (dq (r' :=rT (Se)) (x' :=()) (q:=rT (Se)) (y:=()) Sm I (gk I) I (M I) (Yh JL (show bf _ _ _ (Se)from(UE acC fun x y h=>YK _ _ h)))) fun _=>?_;refine(show RG _ _ _ _ (bx (rT (Se)) 154 b2 ()::_) _ from ?_);refine aK 6 I<|bO<|aY<|ba J6 ye cF I<|ba J6 ye cF I<|Q (mg (M I) (M I))<|aX I<|cq h fun t q_t h=>ap I (bR sX nW I I)<|ap I (bM DB I I)<|ap I (bR sX nW I I)<|ap I (bM DB I I) ?_
 obtain⟨r,h1t,h0t⟩:=og q_t
 have q_rg:=fun Y=>(h1t Y).1
 refine ap I (fun D=>bn acB (YJ _ _ (q_rg D)) ⟨(bF I D),(bF I D),d⟩)<|Q (bJ (M I) (fun Y=>(bF I Y)) (fun Y=>(h1t Y).2) h0t)<|aX I<|cq h fun t1 q_t1 h=>ap I (bR wV vF I I)<|ap I (bM fL I I)<|ap I (bR wV vF I I)<|ap I (bM fL I I) ?_
 obtain⟨r1,h1t1,h0t1⟩:=og q_t1
 have q_r1g:=fun Y=>(h1t1 Y).1
 refine ap I (fun D=>bn Zl (NR _ _ (q_r1g D)) ⟨(bF I D),(bF I D),d⟩)<|Q (bJ (M I) (fun Y=>(bF I Y)) (fun Y=>(h1t1 Y).2) h0t1)<|aX I<|cq h fun t2 q_t2 h=>ap I (bR vI qW I I)<|ap I (bM Ge I I)<|ap I (bR vI qW I I)<|ap I (bM Ge I I) ?_
 obtain⟨r2,h1t2,h0t2⟩:=og q_t2
 have q_r2g:=fun Y=>(h1t2 Y).1
 refine ap I (fun D=>bn acA (YI _ _ (q_r2g D)) ⟨(bF I D),(bF I D),d⟩)<|Q (bJ (M I) (fun Y=>(bF I Y)) (fun Y=>(h1t2 Y).2) h0t2)<|aX I<|cq h fun t3 q_t3 h=>ap I (bR uz pt I I)<|ap I (bM E7 I I)<|ap I (bR uz pt I I)<|ap I (bM E7 I I)<|ap I (fun D=>(show cE _ _ _ _ ((gV aZ UN yE (fun(x:aL×aL)=>(nI jg jf) x.1 x.2)))from pf (cts:=[bt (rT (Sd)) (),bt (rT (Se)) ()]) (caps:=[.tmp 5,.tmp 6]) acy ⟨(M I),(M I),d⟩ (fun x y h=>YG _ _ _ _ h))) ?_
 obtain⟨r3,h1t3,h0t3⟩:=og q_t3
 have q_r3g:=fun Y=>(h1t3 Y).1
 exact ap I (fun D=>bn acz (YH _ _ _ (q_r3g D)) ⟨(bF I D),(bF I D),(bF I D),d⟩)<|Q (bJ (M I) (fun Y=>(bF I Y)) (fun Y=>(h1t3 Y).2) h0t3)<|be I<|so h▸aq I I

def aaq p y z{R}(h:vC p y z=some R):cI aZ 6 [H bK p,H cv y,H cv z] (im R):=by
 refine dm Tryz.func6 I<|aY<|cK I<|cK I<|cK I<|bw<|bO<|aT<|eo h cb9 aaj trivial fun r h=>Q (fV (M I))<|bY h I (fun h=>?_) (fun h=>?_)
 ·exact aY<|bw<|cw<|af<|so h▸aq I I
 ·refine gC<|aY<|cC qa I<|eo h ada (Zg _) (dd I) fun r1 h=>aV qa sH I fun b=>bL qa aj I<|aK 7 I<|bO<|aD<|cq h fun r2 q_r2 h=>cq h fun r3 q_r3 h=>?_
  refine ek 11 [tc (H bK r1),tc (H cv y),tc (H cv r2),tc (tT [H bQ r3.1,bd r3.2.1,bd r3.2.2]),tc (tT [H bQ r3.1,bd r3.2.1,bd r3.2.2]),tc (H bQ r3.1),tc (bd r3.2.1),tc (bd r3.2.2),([8],fun s=>tV (an ((s.getD 0 oF).h 0).2 0)),tc (tR),tc (bd r3.2.1)] [false,false,false,false,false,false,false,false,true,true,false] [fun _=>[],fun sg=>[bx bQ 38 ((sg 8).h 0).2 F5],fun sg=>[bx bQ 38 ((sg 8).h 0).2 r3.1]] I mixed I I I I I
   ⟨⟨[⟨7,fun _=>bt bK r1,none⟩],_,0,1,I,⟨(fun _=>I),d⟩,I,I,I,I,I,fun _ sg _ _=>aa I (qN qa I I)⟩,
   ⟨⟨[⟨4,fun _=>bt cv y,none⟩],_,0,1,I,⟨(fun _=>I),d⟩,I,I,I,I,I,fun _ sg _ _=>aa I (qN Bx I I)⟩,
   ⟨⟨[⟨20,fun _=>H cv y,some 1⟩],_,0,1,I,⟨(fun _=>I),d⟩,I,I,I,I,I,fun _ sg _ _=>aa I (bn abK (TD _ q_r2) ⟨(M I),d⟩)⟩,
   ⟨⟨[⟨19,fun _=>H bK r1,some 0⟩,⟨21,fun _=>H cv r2,some 2⟩],_,0,1,I,⟨(fun _=>I),(fun _=>I),d⟩,I,I,I,I,I,fun _ sg _ _=>aa I (bn abv (TA _ _ q_r3) ⟨(M I),(M I),d⟩)⟩,
   ⟨⟨[⟨22,fun _=>tT [H bQ r3.1,H aP r3.2.1,H aP r3.2.2],some 3⟩],_,0,1,I,⟨(fun _=>I),d⟩,I,I,I,I,I,fun _ sg _ _=>aa I (gH I)⟩,
   ⟨⟨[⟨18,fun _=>tT [H bQ r3.1,H aP r3.2.1,H aP r3.2.2],some 4⟩],_,0,1,I,⟨(fun _=>I),d⟩,I,I,I,I,I,fun _ sg _ _=>aa I (vS I I)⟩,
   ⟨⟨[⟨18,fun _=>tT [H bQ r3.1,H aP r3.2.1,H aP r3.2.2],some 4⟩],_,0,2,I,⟨(fun _=>I),d⟩,I,I,I,I,I,fun _ sg _ _=>aa I (vS I I)⟩,
   ⟨⟨[⟨18,fun _=>tT [H bQ r3.1,H aP r3.2.1,H aP r3.2.2],some 4⟩],_,0,2,I,⟨(fun _=>I),d⟩,I,I,I,I,I,fun _ sg _ _=>aa I (vS I I)⟩,
   ⟨⟨[],_,I,d,I,I,I,fun sg=>bS I (oB jS lh)⟩,
   ⟨⟨[⟨8,fun sg=>tV (an ((sg 8).h 0).2 0),some 8⟩,⟨23,fun _=>H bQ r3.1,some 5⟩],_,I,⟨(fun _=>I),(fun _=>I),d⟩,I,I,I,fun sg=>bS I (dq jS I (uu aj) I (M I) (M I))⟩,
   ⟨⟨[⟨24,fun _=>H aP r3.2.1,some 6⟩],_,2,2,I,⟨(fun _=>I),d⟩,I,I,I,I,I,fun _ sg _ _=>aa I (AW I)⟩,
   d⟩⟩⟩⟩⟩⟩⟩⟩⟩⟩⟩ (fun sg=>?_)
  refine(show RG _ _ _ _ [_] _ from ?_);refine aK 8 I<|bj I<|aD<|cq h fun r4 q_r4 h=>cq h fun r5 q_r5 h=>?_
  refine ek 11 [tc (H bK r1),tc (H cv z),tc (H cv r4),tc (tT [H bQ r5.1,bd r5.2.1,bd r5.2.2]),tc (tT [H bQ r5.1,bd r5.2.1,bd r5.2.2]),tc (H bQ r5.1),tc (bd r5.2.1),tc (bd r5.2.2),([8],fun s=>tV (an ((s.getD 0 oF).h 0).2 0)),tc (tR),tc (bd r5.2.1)] [false,false,false,false,false,false,false,false,true,true,false] [fun _=>[],fun sg1=>[bx bQ 38 ((sg1 8).h 0).2 F5],fun sg1=>[bx bQ 38 ((sg1 8).h 0).2 r5.1]] I mixed I I I I I
   ⟨⟨[⟨7,fun _=>bt bK r1,none⟩],_,0,1,I,⟨(fun _=>I),d⟩,I,I,I,I,I,fun _ sg1 _ _=>aa I (qN qa I I)⟩,
   ⟨⟨[⟨5,fun _=>bt cv z,none⟩],_,0,1,I,⟨(fun _=>I),d⟩,I,I,I,I,I,fun _ sg1 _ _=>aa I (qN Bx I I)⟩,
   ⟨⟨[⟨28,fun _=>H cv z,some 1⟩],_,0,1,I,⟨(fun _=>I),d⟩,I,I,I,I,I,fun _ sg1 _ _=>aa I (bn abK (TD _ q_r4) ⟨(M I),d⟩)⟩,
   ⟨⟨[⟨27,fun _=>H bK r1,some 0⟩,⟨29,fun _=>H cv r4,some 2⟩],_,0,1,I,⟨(fun _=>I),(fun _=>I),d⟩,I,I,I,I,I,fun _ sg1 _ _=>aa I (bn abv (TA _ _ q_r5) ⟨(M I),(M I),d⟩)⟩,
   ⟨⟨[⟨30,fun _=>tT [H bQ r5.1,H aP r5.2.1,H aP r5.2.2],some 3⟩],_,0,1,I,⟨(fun _=>I),d⟩,I,I,I,I,I,fun _ sg1 _ _=>aa I (gH I)⟩,
   ⟨⟨[⟨26,fun _=>tT [H bQ r5.1,H aP r5.2.1,H aP r5.2.2],some 4⟩],_,0,1,I,⟨(fun _=>I),d⟩,I,I,I,I,I,fun _ sg1 _ _=>aa I (vS I I)⟩,
   ⟨⟨[⟨26,fun _=>tT [H bQ r5.1,H aP r5.2.1,H aP r5.2.2],some 4⟩],_,0,2,I,⟨(fun _=>I),d⟩,I,I,I,I,I,fun _ sg1 _ _=>aa I (vS I I)⟩,
   ⟨⟨[⟨26,fun _=>tT [H bQ r5.1,H aP r5.2.1,H aP r5.2.2],some 4⟩],_,0,2,I,⟨(fun _=>I),d⟩,I,I,I,I,I,fun _ sg1 _ _=>aa I (vS I I)⟩,
   ⟨⟨[],_,I,d,I,I,I,fun sg1=>bS I (oB jS lh)⟩,
   ⟨⟨[⟨11,fun sg1=>tV (an ((sg1 8).h 0).2 0),some 8⟩,⟨31,fun _=>H bQ r5.1,some 5⟩],_,I,⟨(fun _=>I),(fun _=>I),d⟩,I,I,I,fun sg1=>bS I (dq jS I (uu aj) I (M I) (M I))⟩,
   ⟨⟨[⟨32,fun _=>H aP r5.2.1,some 6⟩],_,2,2,I,⟨(fun _=>I),d⟩,I,I,I,I,I,fun _ sg1 _ _=>aa I (AW I)⟩,
   d⟩⟩⟩⟩⟩⟩⟩⟩⟩⟩⟩ (fun sg1=>?_)
  refine(show RG _ _ _ _ [_] _ from ?_);refine aK 11 I<|bj I<|aT<|aX I<|gW I<|aX I<|au I (da I)<|au I (tN I)<|eu I<|bY h I (fun h=>?_) (fun h=>?_)
  ·exact aY<|bw<|cw<|af<|so h▸aq I I
  ·refine gC<|aD<|cq h fun r6 q_r6 h=>cq h fun r7 q_r7 h=>cq h fun t q_t h=>?_
   obtain⟨r8,h1t,h0t⟩:=og q_t
   have q_r8g:=fun Y=>(h1t Y).1
   refine eI (ts:=[_,_,_,_,_,_,_,_,_,_,_,_,_]) mixed I I
    ⟨ug 8 I I (qN jS I I),
    ⟨ug 11 I I (qN jS I I),
    ⟨fg 40 0 41 1 I I I (bn aa2 (Tq _ _ q_r6) ⟨(M I),(M I),d⟩),
    ⟨ug 8 I I (qN jS I I),
    ⟨ug 11 I I (qN jS I I),
    ⟨fg 43 3 44 4 I I I (bn ac9 (Zc _ _ q_r7) ⟨(M I),(M I),d⟩),
    ⟨fg 42 2 45 5 I I I (FD FS (M I) (M I)),
    ⟨ga 46 6 I I (gH I),
    ⟨su 8 47 7 I I I (j6 I I I I (fun D=>qN jS I I)),
    ⟨su 8 47 7 I I I (j6 I I I I (fun D=>qN jS I I)),
    ⟨tM 48 8 49 9 47 7 I I I I (j6 I I I I (fun D=>bn aa2 (Tq _ _ (q_r8g D)) ⟨(bF I D),(bF I D),d⟩)),
    ⟨fg 47 7 50 10 I I I (bJ (M I) (fun Y=>(bF I Y)) (fun Y=>(h1t Y).2) h0t),
    ⟨ga 51 11 I I (AW I),
    d⟩⟩⟩⟩⟩⟩⟩⟩⟩⟩⟩⟩⟩ ?_
   exact av<|wY<|so h▸aq I I

end Go.Proofs.YthbdkceckjihgaaGreatDoor

