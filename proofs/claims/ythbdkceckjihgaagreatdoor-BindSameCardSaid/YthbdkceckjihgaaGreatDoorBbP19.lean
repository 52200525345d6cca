/- du of this claim: P19. -/
import Derived.Test.YthbdkceckjihgaaGreatDoorBbT
import Derived.Test.YthbdkceckjihgaaGreatDoorBbP18
set_option linter.all false
namespace Go.Proofs.YthbdkceckjihgaaGreatDoor
open Go
set_option maxRecDepth 100000

def NT a1 b{R}(h:m8 a1 b=some R):cI aZ 52 [pE a1,pE b] (im R):=by
 refine dm Tryz.func52 I<|aY<|bw<|bO<|aT<|aX I<|bW fH I<|aX I<|bW fH I<|Q (dZ (M I) (M I))<|bY h I (fun h=>?_) (fun h=>?_)
 ·exact aY<|bw<|cw<|af<|so h▸aq I I
 ·refine gC<|aT<|aX I<|bW fH I<|Q (bC hI)<|bO<|ai<|aO (k:=11) I fun hN=>bp ?_;refine ay (dz (h2:=fun ls i=>(a1.drop i=ls)/\oN b ls i=some R) (Of:=fun _ i=>[]) (Gf:=fun _ i=>[(0,pE a1),(1,pE b),(12,iK a1),(13,bd (i:Int))]) (fun i h=>?_) (fun e tl ih i h=>?_) a1 0 ⟨I,h⟩) (bb I)
  ·obtain⟨A,h⟩:=h
   exact dh A I<|av<|aY<|bw<|cw<|so h▸aq I I
  ·obtain⟨A,h⟩:=h
   refine dg A I<|aD<|ai<|aH I<|bj I<|aD<|cq h fun e1 q_e1 h=>?_
   refine eI (ts:=[_,_,_,_,_,_,_,_,_]) mixed I I
    ⟨f8 I I,
    ⟨f8 I I,
    ⟨fg 16 0 17 1 I I I (Cc fH cF I I I (df A)),
    ⟨jX 2 cF I I,
    ⟨f8 I I,
    ⟨f8 I I,
    ⟨fg 20 4 21 5 I I I (Cc fH cF I I I q_e1),
    ⟨jX 6 cF I I,
    ⟨fg 19 3 23 7 I I I (dZ (M I) (M I)),
    d⟩⟩⟩⟩⟩⟩⟩⟩⟩ ?_
   refine av<|mA h I (fun h=>?_) (fun h=>?_)
   ·exact aY<|bw<|cw<|bZ<|af<|bZ<|so h▸aq I I
   ·refine bk<|cR A hN I ?_;exact aS (ay (ih (i+1) ⟨cM A,h⟩) (bb I))

def Wq a1 b{R}(h:tn a1 b=some R):cI aZ 111 [fm (ac) a1,fm (ac) b] (im R):=by
 refine dm Tryz.func111 I<|aY<|bw<|bO<|aT<|aX I<|bW mX I<|aX I<|bW mX I<|Q (dZ (M I) (M I))<|bY h I (fun h=>?_) (fun h=>?_)
 ·exact aY<|bw<|cw<|af<|so h▸aq I I
 ·refine gC<|aT<|aX I<|bW mX I<|Q (bC hI)<|bO<|ai<|aO (k:=11) I fun hN=>bp ?_;refine ay (dz (h2:=fun ls i=>(a1.drop i=ls)/\pM b ls i=some R) (Of:=fun _ i=>[]) (Gf:=fun _ i=>[(0,fm (ac) a1),(1,fm (ac) b),(12,iK a1),(13,bd (i:Int))]) (fun i h=>?_) (fun e tl ih i h=>?_) a1 0 ⟨I,h⟩) (bb I)
  ·obtain⟨A,h⟩:=h
   exact dh A I<|av<|aY<|bw<|cw<|so h▸aq I I
  ·obtain⟨A,h⟩:=h
   refine dg A I<|aD<|ai<|aH I<|bj I<|aD<|cq h fun e1 q_e1 h=>cq h fun r q_r h=>?_
   refine eI (ts:=[_,_,_,_,_,_,_,_,_,_]) mixed I I
    ⟨f8 I I,
    ⟨f8 I I,
    ⟨fg 16 0 17 1 I I I (Cc mX bD I I I (df A)),
    ⟨jX 2 bD I I,
    ⟨f8 I I,
    ⟨f8 I I,
    ⟨fg 20 4 21 5 I I I (Cc mX bD I I I q_e1),
    ⟨jX 6 bD I I,
    ⟨fg 19 3 23 7 I I I (bn Jg (Ar _ _ q_r) ⟨(M I),(M I),d⟩),
    ⟨ga 24 8 I I (fV (M I)),
    d⟩⟩⟩⟩⟩⟩⟩⟩⟩⟩ ?_
   refine av<|mA h I (fun h=>?_) (fun h=>?_)
   ·exact aY<|bw<|cw<|bZ<|af<|bZ<|so h▸aq I I
   ·refine bk<|cR A hN I ?_;exact aS (ay (ih (i+1) ⟨cM A,h⟩) (bb I))

def YP a1 b{R}(h:pJ a1 b=some R):cI aZ 53 [H bm a1,H bm b] (im R):=by
 refine dm Tryz.func53 I<|aY<|cK I<|cK I<|bw<|bO<|aT<|ba rX iJ yG I<|ba rX iJ yG I<|Q (CS FS (M I) (M I))<|aX I<|au I (bR Ec uY I I)<|au I (bM yG I I)<|au I (bR Ec uY I I)<|au I (bM yG I I)<|au I (fun D=>CS FS (bF I D) (bF I D))<|eu I<|aX I ?_;refine au I (bR sW lz I I)<|au I (bM DA I I)<|au I (kA AJ I)<|au I (bR sW lz I I)<|au I (bM DA I I)<|au I (kA AJ I)<|au I (fun D=>dZ (bF I D) (bF I D))<|eu I<|aX I<|au I (bR mR ku I I)<|au I (bM wM I I)<|au I (kA sE I)<|au I (bR mR ku I I)<|au I (bM wM I I)<|au I (kA sE I)<|au I (fun D=>dZ (bF I D) (bF I D))<|eu I<|bY h I (fun h=>?_) (fun h=>?_)
 ·exact aY<|bw<|cw<|af<|so h▸aq I I
 ·refine gC<|aT<|ba sW lz DA I<|bW AJ I<|Q (bC hI)<|bO<|ai<|aO (k:=38) I fun hN=>bp ?_;refine ay (dz (h2:=fun ls i=>(a1.Joins.drop i=ls)/\jH a1 b ls i=some R) (Of:=fun _ i=>[]) (Gf:=fun _ i=>[(2,bt bm a1),(3,bt bm b),(39,iK a1.Joins),(40,bd (i:Int))]) (fun i h=>?_) (fun e tl ih i h=>?_) a1.Joins 0 ⟨I,h⟩) (bb I)
  ·obtain⟨A,h⟩:=h
   refine dh A I<|av<|aT<|ba mR ku wM I<|bW sE I<|Q (bC hI)<|bO<|ai<|aO (k:=74) I fun hN1=>?_;refine bp ?_;refine ay (dz (h2:=fun ls1 i1=>(a1.Aggs.drop i1=ls1)/\io a1 b ls1 i1=some R) (Of:=fun _ i1=>[]) (Gf:=fun _ i1=>[(2,bt bm a1),(3,bt bm b),(75,iK a1.Aggs),(76,bd (i1:Int))]) (fun i1 h=>?_) (fun e1 tl1 ih1 i1 h=>?_) a1.Aggs 0 ⟨I,h⟩) (bb I)
   ·obtain⟨hx1,h⟩:=h
    refine dh hx1 I<|av<|aY<|ba pu pV fL I<|ba pu pV fL I<|eo h Zm (NT _ _) (dd I) fun r h=>aX I<|cq h fun t q_t h=>ap I (bR rW rR I I) ?_;refine ap I (bM fL I I)<|ap I (bR rW rR I I)<|ap I (bM fL I I) ?_
    obtain⟨r1,h1t,h0t⟩:=og q_t
    have q_r1g:=fun Y=>(h1t Y).1
    refine ap I (fun D=>bn Zm (NT _ _ (q_r1g D)) ⟨(bF I D),(bF I D),d⟩)<|Q (bJ (M I) (fun Y=>(bF I Y)) (fun Y=>(h1t Y).2) h0t)<|aX I<|cq h fun t1 q_t1 h=>ap I (bR Ee u0 I I)<|ap I (bM bD I I)<|ap I (bR Ee u0 I I)<|ap I (bM bD I I) ?_
    obtain⟨r2,h1t1,h0t1⟩:=og q_t1
    have q_r2g:=fun Y=>(h1t1 Y).1
    refine ap I (fun D=>bn Jg (Ar _ _ (q_r2g D)) ⟨(bF I D),(bF I D),d⟩)<|Q (bJ (M I) (fun Y=>(bF I Y)) (fun Y=>(h1t1 Y).2) h0t1)<|aX I<|cq h fun t2 q_t2 h=>ap I (bR Ed uZ I I)<|ap I (bM bD I I)<|ap I (bR Ed uZ I I)<|ap I (bM bD I I) ?_
    obtain⟨r3,h1t2,h0t2⟩:=og q_t2
    have q_r3g:=fun Y=>(h1t2 Y).1
    refine ap I (fun D=>bn Jg (Ar _ _ (q_r3g D)) ⟨(bF I D),(bF I D),d⟩)<|Q (bJ (M I) (fun Y=>(bF I Y)) (fun Y=>(h1t2 Y).2) h0t2)<|aX I<|cq h fun t3 q_t3 h=>ap I (bR qX pU I I)<|ap I (bM Bw I I)<|ap I (bR qX pU I I)<|ap I (bM Bw I I) ?_
    obtain⟨r4,h1t3,h0t3⟩:=og q_t3
    have q_r4g:=fun Y=>(h1t3 Y).1
    exact ap I (fun D=>bn abJ (Wq _ _ (q_r4g D)) ⟨(bF I D),(bF I D),d⟩)<|Q (bJ (M I) (fun Y=>(bF I Y)) (fun Y=>(h1t3 Y).2) h0t3)<|be I<|so h▸aq I I
   ·obtain⟨hx1,h⟩:=h
    refine dg hx1 I<|aD<|ai<|aH I<|bj I<|aD<|cq h fun e2 q_e2 h=>cq h fun t4 q_t4 h=>?_
    obtain⟨r5,h1t4,h0t4⟩:=og q_t4
    have q_r5g:=fun Y=>(h1t4 Y).1
    refine eI (ts:=[_,_,_,_,_,_,_,_,_,_,_,_,_,_,_,_,_,_,_,_,_,_,_,_,_,_,_,_,_]) mixed I I
     ⟨ug 2 I I (oJ mR ku I I),
     ⟨jX 0 wM I I,
     ⟨f8 I I,
     ⟨fg 80 1 81 2 I I I (Cc sE p9 I I I (df hx1)),
     ⟨ga 82 3 I I (oJ qd ll I I),
     ⟨jX 4 cF I I,
     ⟨ug 3 I I (oJ mR ku I I),
     ⟨jX 6 wM I I,
     ⟨f8 I I,
     ⟨fg 86 7 87 8 I I I (Cc sE p9 I I I q_e2),
     ⟨ga 88 9 I I (oJ qd ll I I),
     ⟨jX 10 cF I I,
     ⟨fg 84 5 90 11 I I I (dZ (M I) (M I)),
     ⟨ga 91 12 I I (gH I),
     ⟨su 2 92 13 I I I (ep I I I I (fun D=>oJ mR ku I I)),
     ⟨ml 93 14 92 13 I I I (ep I I I I (fun D=>fJ wM I I (bF I D))),
     ⟨su 6 92 13 I I I (ep I I I I (fun D=>gH I)),
     ⟨tM 94 15 95 16 92 13 I I I I (ep I I I I (fun D=>ev sE p9 I (bF I D) (bF I D) (df hx1))),
     ⟨ml 96 17 92 13 I I I (ep I I I I (fun D=>iI vG I qy I (bF I D))),
     ⟨ml 97 18 92 13 I I I (ep I I I I (fun D=>fJ bD I I (bF I D))),
     ⟨su 3 92 13 I I I (ep I I I I (fun D=>oJ mR ku I I)),
     ⟨ml 99 20 92 13 I I I (ep I I I I (fun D=>fJ wM I I (bF I D))),
     ⟨su 6 92 13 I I I (ep I I I I (fun D=>gH I)),
     ⟨tM 100 21 101 22 92 13 I I I I (ep I I I I (fun D=>ev sE p9 I (bF I D) (bF I D) q_e2)),
     ⟨ml 102 23 92 13 I I I (ep I I I I (fun D=>iI vG I qy I (bF I D))),
     ⟨ml 103 24 92 13 I I I (ep I I I I (fun D=>fJ bD I I (bF I D))),
     ⟨tM 98 19 104 25 92 13 I I I I (ep I I I I (fun D=>bn Jg (Ar _ _ (q_r5g D)) ⟨(bF I D),(bF I D),d⟩)),
     ⟨ml 105 26 92 13 I I I (ep I I I I (fun D=>fV (bF I D))),
     ⟨fg 92 13 106 27 I I I (cV (M I) (fun Y=>(bF I (nR Y))) (fun Y=>(h1t4 Y).2) h0t4),
     d⟩⟩⟩⟩⟩⟩⟩⟩⟩⟩⟩⟩⟩⟩⟩⟩⟩⟩⟩⟩⟩⟩⟩⟩⟩⟩⟩⟩⟩ ?_
    refine av<|mA h I (fun h=>?_) (fun h=>?_)
    ·exact aY<|bw<|cw<|bZ<|af<|bZ<|so h▸aq I I
    ·refine bk<|cR hx1 hN1 I ?_;exact aS (ay (ih1 (i1+1) ⟨cM hx1,h⟩) (bb I))
  ·obtain⟨A,h⟩:=h
   refine dg A I<|aD<|ai<|aH I<|bj I<|aD<|cq h fun e3 q_e3 h=>cq h fun t5 q_t5 h=>?_
   obtain⟨r6,h1t5,h0t5⟩:=og q_t5
   have q_r6g:=fun Y=>(h1t5 Y).1
   refine eI (ts:=[_,_,_,_,_,_,_,_,_,_,_,_,_,_,_,_,_,_,_,_,_,_,_,_,_,_,_,_,_]) mixed I I
    ⟨ug 2 I I (oJ sW lz I I),
    ⟨jX 0 DA I I,
    ⟨f8 I I,
    ⟨fg 44 1 45 2 I I I (Cc AJ yY I I I (df A)),
    ⟨ga 46 3 I I (oJ J4 yg I I),
    ⟨jX 4 yG I I,
    ⟨ug 3 I I (oJ sW lz I I),
    ⟨jX 6 DA I I,
    ⟨f8 I I,
    ⟨fg 50 7 51 8 I I I (Cc AJ yY I I I q_e3),
    ⟨ga 52 9 I I (oJ J4 yg I I),
    ⟨jX 10 yG I I,
    ⟨fg 48 5 54 11 I I I (CS FS (M I) (M I)),
    ⟨ga 55 12 I I (gH I),
    ⟨su 2 56 13 I I I (ep I I I I (fun D=>oJ sW lz I I)),
    ⟨ml 57 14 56 13 I I I (ep I I I I (fun D=>fJ DA I I (bF I D))),
    ⟨su 5 56 13 I I I (ep I I I I (fun D=>gH I)),
    ⟨tM 58 15 59 16 56 13 I I I I (ep I I I I (fun D=>ev AJ yY I (bF I D) (bF I D) (df A))),
    ⟨ml 60 17 56 13 I I I (ep I I I I (fun D=>iI J3 I yf I (bF I D))),
    ⟨ml 61 18 56 13 I I I (ep I I I I (fun D=>fJ bD I I (bF I D))),
    ⟨su 3 56 13 I I I (ep I I I I (fun D=>oJ sW lz I I)),
    ⟨ml 63 20 56 13 I I I (ep I I I I (fun D=>fJ DA I I (bF I D))),
    ⟨su 5 56 13 I I I (ep I I I I (fun D=>gH I)),
    ⟨tM 64 21 65 22 56 13 I I I I (ep I I I I (fun D=>ev AJ yY I (bF I D) (bF I D) q_e3)),
    ⟨ml 66 23 56 13 I I I (ep I I I I (fun D=>iI J3 I yf I (bF I D))),
    ⟨ml 67 24 56 13 I I I (ep I I I I (fun D=>fJ bD I I (bF I D))),
    ⟨tM 62 19 68 25 56 13 I I I I (ep I I I I (fun D=>bn Jg (Ar _ _ (q_r6g D)) ⟨(bF I D),(bF I D),d⟩)),
    ⟨ml 69 26 56 13 I I I (ep I I I I (fun D=>fV (bF I D))),
    ⟨fg 56 13 70 27 I I I (cV (M I) (fun Y=>(bF I (nR Y))) (fun Y=>(h1t5 Y).2) h0t5),
    d⟩⟩⟩⟩⟩⟩⟩⟩⟩⟩⟩⟩⟩⟩⟩⟩⟩⟩⟩⟩⟩⟩⟩⟩⟩⟩⟩⟩⟩ ?_
   refine av<|mA h I (fun h=>?_) (fun h=>?_)
   ·exact aY<|bw<|cw<|bZ<|af<|bZ<|so h▸aq I I
   ·refine bk<|cR A hN I ?_;exact aS (ay (ih (i+1) ⟨cM A,h⟩) (bb I))

def Zc a1 b{R}(h:xR a1 b=some R):cI aZ 14 [H bQ a1,H bQ b] (im R):=by
 refine dm Tryz.func14 I<|aY<|cK I<|cK I<|bw<|bO<|aT<|ba J6 ye cF I<|ba J6 ye cF I<|Q (dZ (M I) (M I))<|aX I<|au I (bR uz pt I I)<|au I (bM E7 I I)<|au I (kA Bm I)<|au I (bR uz pt I I)<|au I (bM E7 I I)<|au I (kA Bm I)<|au I (fun D=>dZ (bF I D) (bF I D)) ?_;refine eu I<|aX I<|au I (bR sX nW I I)<|au I (bM DB I I)<|au I (kA qK I)<|au I (bR sX nW I I)<|au I (bM DB I I)<|au I (kA qK I)<|au I (fun D=>dZ (bF I D) (bF I D))<|eu I<|aX I<|au I (bR vI qW I I)<|au I (bM Ge I I)<|au I (kA Cg I)<|au I (bR vI qW I I)<|au I (bM Ge I I)<|au I (kA Cg I)<|au I (fun D=>dZ (bF I D) (bF I D))<|eu I<|aX I<|cq h fun t q_t h=>au I (bR wV vF I I)<|au I (bM fL I I)<|au I (bR wV vF I I) ?_;refine au I (bM fL I I) ?_
 obtain⟨r,h1t,h0t⟩:=og q_t
 have q_rg:=fun Y=>(h1t Y).1
 refine au I (fun D=>bn Zm (NT _ _ (q_rg D)) ⟨(bF I D),(bF I D),d⟩)<|au I (sy I)<|Q (cV (M I) (fun Y=>(bF I (nR Y))) (fun Y=>(h1t Y).2) h0t)<|bY h I (fun h=>?_) (fun h=>?_)
 ·exact aY<|bw<|cw<|af<|so h▸aq I I
 ·refine gC<|aT<|ba uz pt E7 I<|bW Bm I<|Q (bC hI)<|bO<|ai<|aO (k:=49) I fun hN=>bp ?_;refine ay (dz (h2:=fun ls i=>(a1.Selects.drop i=ls)/\qh a1 b ls i=some R) (Of:=fun _ i=>[]) (Gf:=fun _ i=>[(2,bt bQ a1),(3,bt bQ b),(50,iK a1.Selects),(51,bd (i:Int))]) (fun i h=>?_) (fun e tl ih i h=>?_) a1.Selects 0 ⟨I,h⟩) (bb I)
  ·obtain⟨A,h⟩:=h
   refine dh A I<|av<|aT<|ba sX nW DB I<|bW qK I<|Q (bC hI)<|bO<|ai<|aO (k:=68) I fun hN1=>?_;refine bp ?_;refine ay (dz (h2:=fun ls1 i1=>(a1.Names.drop i1=ls1)/\ow a1 b ls1 i1=some R) (Of:=fun _ i1=>[]) (Gf:=fun _ i1=>[(2,bt bQ a1),(3,bt bQ b),(69,iK a1.Names),(70,bd (i1:Int))]) (fun i1 h=>?_) (fun e1 tl1 ih1 i1 h=>?_) a1.Names 0 ⟨I,h⟩) (bb I)
   ·obtain⟨hx1,h⟩:=h
    refine dh hx1 I<|av<|aT<|ba vI qW Ge I<|bW Cg I<|Q (bC hI)<|bO<|ai<|aO (k:=86) I fun hN2=>?_;refine bp ?_;refine ay (dz (h2:=fun ls2 i2=>(a1.Order.drop i2=ls2)/\ou b ls2 i2=some R) (Of:=fun _ i2=>[]) (Gf:=fun _ i2=>[(2,bt bQ a1),(3,bt bQ b),(87,iK a1.Order),(88,bd (i2:Int))]) (fun i2 h=>?_) (fun e2 tl2 ih2 i2 h=>?_) a1.Order 0 ⟨I,h⟩) (bb I)
    ·obtain⟨hx2,h⟩:=h
     exact dh hx2 I<|av<|aY<|bw<|cw<|so h▸aq I I
    ·obtain⟨hx2,h⟩:=h
     refine dg hx2 I<|aD<|ai<|aH I<|bj I<|aD<|cq h fun e3 q_e3 h=>?_
     refine eI (ts:=[_,_,_,_,_,_,_,_,_,_,_]) mixed I I
      ⟨ug 2 I I (oJ vI qW I I),
      ⟨jX 0 Ge I I,
      ⟨f8 I I,
      ⟨fg 92 1 93 2 I I I (Cc Cg Ct I I I (df hx2)),
      ⟨jX 3 Ct I I,
      ⟨ug 3 I I (oJ vI qW I I),
      ⟨jX 5 Ge I I,
      ⟨f8 I I,
      ⟨fg 97 6 98 7 I I I (Cc Cg Ct I I I q_e3),
      ⟨jX 8 Ct I I,
      ⟨fg 95 4 100 9 I I I (xT aaA (M I) (M I)),
      d⟩⟩⟩⟩⟩⟩⟩⟩⟩⟩⟩ ?_
     refine av<|mA h I (fun h=>?_) (fun h=>?_)
     ·exact aY<|bw<|cw<|bZ<|af<|bZ<|so h▸aq I I
     ·refine bk<|cR hx2 hN2 I ?_;exact aS (ay (ih2 (i2+1) ⟨cM hx2,h⟩) (bb I))
   ·obtain⟨hx1,h⟩:=h
    refine dg hx1 I<|aD<|ai<|aH I<|bj I<|aD<|cq h fun e4 q_e4 h=>?_
    refine eI (ts:=[_,_,_,_,_,_,_,_,_,_,_]) mixed I I
     ⟨ug 2 I I (oJ sX nW I I),
     ⟨jX 0 DB I I,
     ⟨f8 I I,
     ⟨fg 74 1 75 2 I I I (Cc qK jG I I I (df hx1)),
     ⟨jX 3 jG I I,
     ⟨ug 3 I I (oJ sX nW I I),
     ⟨jX 5 DB I I,
     ⟨f8 I I,
     ⟨fg 79 6 80 7 I I I (Cc qK jG I I I q_e4),
     ⟨jX 8 jG I I,
     ⟨fg 77 4 82 9 I I I (wk (M I) (M I)),
     d⟩⟩⟩⟩⟩⟩⟩⟩⟩⟩⟩ ?_
    refine av<|mA h I (fun h=>?_) (fun h=>?_)
    ·exact aY<|bw<|cw<|bZ<|af<|bZ<|so h▸aq I I
    ·refine bk<|cR hx1 hN1 I ?_;exact aS (ay (ih1 (i1+1) ⟨cM hx1,h⟩) (bb I))
  ·obtain⟨A,h⟩:=h
   refine dg A I<|aD<|ai<|aH I<|bj I<|aD<|cq h fun e5 q_e5 h=>cq h fun r1 q_r1 h=>?_
   refine eI (ts:=[_,_,_,_,_,_,_,_,_,_,_,_]) mixed I I
    ⟨ug 2 I I (oJ uz pt I I),
    ⟨jX 0 E7 I I,
    ⟨f8 I I,
    ⟨fg 55 1 56 2 I I I (Cc Bm vn I I I (df A)),
    ⟨jX 3 vn I I,
    ⟨ug 3 I I (oJ uz pt I I),
    ⟨jX 5 E7 I I,
    ⟨f8 I I,
    ⟨fg 60 6 61 7 I I I (Cc Bm vn I I I q_e5),
    ⟨jX 8 vn I I,
    ⟨fg 58 4 63 9 I I I (bn acI (YP _ _ q_r1) ⟨(M I),(M I),d⟩),
    ⟨ga 64 10 I I (fV (M I)),
    d⟩⟩⟩⟩⟩⟩⟩⟩⟩⟩⟩⟩ ?_
   refine av<|mA h I (fun h=>?_) (fun h=>?_)
   ·exact aY<|bw<|cw<|bZ<|af<|bZ<|so h▸aq I I
   ·refine bk<|cR A hN I ?_;exact aS (ay (ih (i+1) ⟨cM A,h⟩) (bb I))

end Go.Proofs.YthbdkceckjihgaaGreatDoor

