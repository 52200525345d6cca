/- du of this claim: P11. -/
import Derived.Test.YthbdkceckjihgaaGreatDoorBbT
import Derived.Test.YthbdkceckjihgaaGreatDoorBbP10
set_option linter.all false
namespace Go.Proofs.YthbdkceckjihgaaGreatDoor
open Go
set_option maxRecDepth 100000

def Kg c{R}(h:tW c=some R):cI aZ 158 [H (rI .u8) c] (im R):=by
 exact dm Tryz.func158 I<|aY<|bw<|bO<|aH I<|Q (fh (M I) hI)<|aX I<|ap I (da I)<|ap I (fun D=>kD (bF I D) hI)<|eV I<|be I<|so h▸aq I I

def VQ l s{R}(h:DU l s=some R):cI aZ 201 [fm (rS) l,H rS s] (im R):=by
 refine dm Tryz.func201 I<|aY<|bw<|bO<|aT<|bG<|bO<|ai<|aO (k:=0) I fun hN=>bp ?_;refine ay (dz (h2:=fun ls i=>(l.drop i=ls)/\rK s ls=some R) (Of:=fun _ i=>[]) (Gf:=fun _ i=>[(0,fm (rS) l),(1,H rS s),(5,bd (i:Int))]) (fun i h=>?_) (fun e tl ih i h=>?_) l 0 ⟨I,h⟩) (bb I)
 ·obtain⟨A,h⟩:=h
  exact Zy qK A I<|av<|aY<|bw<|cw<|so h▸aq I I
 ·obtain⟨A,h⟩:=h
  refine Zx qK A I<|aD<|ai<|aH I<|aX I<|dE qK jG I (df A)<|aX I<|Q (fW (M I) (M I))<|bz ?_;refine av<|mA h I (fun h=>?_) (fun h=>?_)
  ·exact aY<|bw<|cw<|bZ<|af<|bZ<|so h▸aq I I
  ·refine bk<|WP A hN I ?_;exact aS (ay (ih (i+1) ⟨cM A,h⟩) (bb I))

def Ts{R}(h:zw=some R):jE aZ 202 [] false rS 9 R:=by
 exact jE.of Tryz.func202 I I I fun w0 S0=>aY<|cj false rS 9<|Q (cg y6)<|bO<|aY<|jh (r:=rS) (ys:=[[83,69,76,69,67,84],[68,73,83,84,73,78,67,84],[70,82,79,77],[76,69,70,84],[74,79,73,78],[79,78],[87,72,69,82,69],[71,82,79,85,80],[66,89],[72,65,86,73,78,71],[85,78,73,79,78],[65,76,76],[79,82,68,69,82],[76,73,77,73,84],[65,83,67],[68,69,83,67],[65,83],[65,78,68],[79,82],[78,79,84],[73,83],[78,85,76,76],[84,82,85,69],[70,65,76,83,69],[67,79,85,78,84],[83,85,77],[77,73,78],[77,65,88]]) (xs:=[.const (.string ⟨#[83,69,76,69,67,84]⟩),.const (.string ⟨#[68,73,83,84,73,78,67,84]⟩),.const (.string ⟨#[70,82,79,77]⟩),.const (.string ⟨#[76,69,70,84]⟩),.const (.string ⟨#[74,79,73,78]⟩),.const (.string ⟨#[79,78]⟩),.const (.string ⟨#[87,72,69,82,69]⟩),.const (.string ⟨#[71,82,79,85,80]⟩),.const (.string ⟨#[66,89]⟩),.const (.string ⟨#[72,65,86,73,78,71]⟩),.const (.string ⟨#[85,78,73,79,78]⟩),.const (.string ⟨#[65,76,76]⟩),.const (.string ⟨#[79,82,68,69,82]⟩),.const (.string ⟨#[76,73,77,73,84]⟩),.const (.string ⟨#[65,83,67]⟩),.const (.string ⟨#[68,69,83,67]⟩),.const (.string ⟨#[65,83]⟩),.const (.string ⟨#[65,78,68]⟩),.const (.string ⟨#[79,82]⟩),.const (.string ⟨#[78,79,84]⟩),.const (.string ⟨#[73,83]⟩),.const (.string ⟨#[78,85,76,76]⟩),.const (.string ⟨#[84,82,85,69]⟩),.const (.string ⟨#[70,65,76,83,69]⟩),.const (.string ⟨#[67,79,85,78,84]⟩),.const (.string ⟨#[83,85,77]⟩),.const (.string ⟨#[77,73,78]⟩),.const (.string ⟨#[77,65,88]⟩)]) qK jG I I I I I ⟨hS,hS,hS,hS,hS,hS,hS,hS,hS,hS,hS,hS,hS,hS,hS,hS,hS,hS,hS,hS,hS,hS,hS,hS,hS,hS,hS,hS,d⟩ I fun l c=>be I<|so h▸m6 I I
def V8 s{R}(h:uU s=some R):cI aZ 159 [H rS s] (im R):=by
 exact dm Tryz.func159 I<|aY<|bw<|bO<|aY<|F8 h aa0 Ts trivial fun r h l c=>aX I<|p6<|xB 3 I<|eo h aa1 (VQ _ _) ⟨(kB (M I)),(M I),d⟩ fun r1 h=>be I<|aM<|so h▸aq I I

def V7 s{R}(h:wg s=some R):cI aZ 160 [H rS s] (H rS R):=by
 refine dm Tryz.func160 I<|aY<|Q (cg hS)<|bO<|aY<|cj false (rI .u8) 5<|Q (cg y6)<|bO<|aT<|bG<|bO<|ai<|bp ?_;refine ay (KA (h2:=fun n out l c i=>lY s n out i=some R) (Of:=fun out l c i=>[gb (rI .u8) 5 l c out]) (Gf:=fun out l c i=>[(0,H rS s),(3,sn l c out),(4,bd i)]) (fun out l c i h=>nn h) (fun n ih out l c i h=>?_) gi w9 none 0 (0:Int) h) (bb I);refine dX<|aT<|aX I<|aX I<|Q (nQ gx (M I))<|sx I<|bY h I (fun h=>?_) (fun h=>?_)
 ·refine gC<|aD<|ai<|aH I<|aX I<|cq h fun b q_b h=>Q (lM gx (M I) (M I) q_b)<|bj I ?_;refine ig (h2:=fun c1=>pc (lY s n) out i c1=some R) (Of:=fun c1=>[gb (rI .u8) 5 l c out]) (Gf:=fun c1=>[(0,H rS s),(3,sn l c out),(4,bd i),(5,H (rI .u8) c1)]) (fun c1 h=>?_) (fun ax=>?_)
  ·skip
   refine aJ<|aX I<|aX I<|Q (a8 (r:=(rI .u8)) (ys:=[c1]) (xs:=[.tmp 21]) FZ X1 I I I I I ⟨(M I),d⟩)<|cq h fun out1 q_out1 h=>d8 X1 I I I I FZ I I (M I) (M I) q_out1 fun l1 c2=>gE I<|bz<|bq<|av<|aJ<|aX I<|Q (fX (M I) hI)<|gE I<|bz ?_;exact aS (ay (ih out1 l1 c2 (IntKind.i64.wrap (i+(1:Int))) h) (bb I))
  ·skip
   refine aH I<|eo h T0 (Kg _) (dd I) fun r h=>bY h I (fun h=>?_) (fun h=>?_)
   ·refine aJ<|aX I<|Q (fv (M I) hI)<|Q (fX (M I) hI)<|gE I<|bz ?_;exact cm (ax (IntKind.u8.wrap ((IntKind.u8.wrap (b-(97:Int)))+(65:Int))) h) (bb I)
   ·refine bk ?_;exact cm (ax b h) (bb I)
 ·exact eY<|aI<|aI<|cW<|av<|aH I<|p6<|xB 3 I<|xB 24 I<|Q (IU FZ OM gx X1 I (kB (M I)))<|be I<|aM<|so h▸aq I I

def V6 c{R}(h:zu c=some R):cI aZ 161 [H (rI .u8) c] (im R):=by
 exact dm Tryz.func161 I<|aY<|bw<|bO<|aH I<|Q (fh (M I) hI)<|aX I<|ap I (da I)<|ap I (fun D=>kD (bF I D) hI)<|eV I<|be I<|so h▸aq I I

def PP s{R}(h:rL s=some R):cI aZ 121 [H rS s] (im R):=by
 refine dm Tryz.func121 I<|aY<|bw<|bO<|aT<|aX I<|Q (nQ gx (M I))<|Q (eP (M I) hI)<|aX I<|au I (da I)<|au I (fun D=>nQ gx (bF I D))<|au I (fun D=>fa (bF I D) hI)<|eu I<|aX I<|cq h fun t q_t h=>au I (da I) ?_
 obtain⟨b,h1t,h0t⟩:=og q_t
 have q_bg:=fun Y=>(h1t Y).1
 refine au I (fun D=>lM gx (bF I D) hI (q_bg D)) ?_
 obtain⟨r,h1t⟩:=UA (fun Y=>(h1t Y).2)
 have q_rg:=fun Y=>(h1t Y).1
 refine au I (fun D=>bn T0 (Kg _ (q_rg D)) ⟨(bF I D),d⟩)<|au I (sy I)<|Q (cV (M I) (fun Y=>(bF I (nR Y))) (fun Y=>(h1t Y).2) h0t)<|aX I<|cq h fun t1 q_t1 h=>au I (da I) ?_
 obtain⟨r1,h1t1,h0t1⟩:=og q_t1
 have q_r1g:=fun Y=>(h1t1 Y).1
 refine au I (fun D=>bn abk (V7 _ (q_r1g D)) ⟨(bF I D),d⟩) ?_
 obtain⟨r2,h1t1⟩:=UA (fun Y=>(h1t1 Y).2)
 have q_r2g:=fun Y=>(h1t1 Y).1
 refine au I (fun D=>bn abl (V8 _ (q_r2g D)) ⟨(bF I D),d⟩)<|Q (cV (M I) (fun Y=>(bF I (nR Y))) (fun Y=>(h1t1 Y).2) h0t1)<|bY h I (fun h=>?_) (fun h=>?_)
 ·exact aY<|bw<|cw<|af<|so h▸aq I I
 ·refine gC<|aT<|bG<|bO<|ai<|bp ?_;refine ay (sl (h2:=fun n i=>ol s n i=some R) (Of:=fun i=>[]) (Gf:=fun i=>[(0,H rS s),(3,bd i)]) (fun i h=>nn h) (fun n ih i h=>?_) gi (0:Int) h) (bb I);refine dX<|aT<|aX I<|aX I<|Q (nQ gx (M I))<|sx I<|bY h I (fun h=>?_) (fun h=>?_)
  ·refine gC<|aD<|ai<|aH I<|aX I<|cq h fun b1 q_b1 h=>Q (lM gx (M I) (M I) q_b1)<|eo h T0 (Kg _) (dd I) fun r3 h=>Q (fV (M I))<|aX I<|cq h fun t2 q_t2 h=>ap I (da I)<|ap I (da I) ?_
   obtain⟨b2,h1t2,h0t2⟩:=og q_t2
   have q_b2g:=fun Y=>(h1t2 Y).1
   refine ap I (fun D=>lM gx (bF I D) (bF I D) (q_b2g D)) ?_
   obtain⟨r4,h1t2⟩:=UA (fun Y=>(h1t2 Y).2)
   have q_r4g:=fun Y=>(h1t2 Y).1
   refine ap I (fun D=>bn abj (V6 _ (q_r4g D)) ⟨(bF I D),d⟩)<|ap I (sy I)<|Q (bJ (M I) (fun Y=>(bF I Y)) (fun Y=>(h1t2 Y).2) h0t2)<|aX I<|cq h fun t3 q_t3 h=>ap I (da I)<|ap I (da I) ?_
   obtain⟨b3,h1t3,h0t3⟩:=og q_t3
   have q_b3g:=fun Y=>(h1t3 Y).1
   refine ap I (fun D=>lM gx (bF I D) (bF I D) (q_b3g D))<|ap I (tN I)<|Q (bJ (M I) (fun Y=>(bF I Y)) (fun Y=>(h1t3 Y).2) h0t3)<|bY h I (fun h=>?_) (fun h=>?_)
   ·exact aY<|bw<|cw<|bZ<|af<|bZ<|so h▸aq I I
   ·refine bk<|bq<|av<|aJ<|aX I<|Q (fX (M I) hI)<|gE I<|bz ?_;exact aS (ay (ih (IntKind.i64.wrap (i+(1:Int))) h) (bb I))
  ·exact eY<|aI<|aI<|cW<|av<|aY<|bw<|cw<|so h▸aq I I

def Wn kind{R}(h:xS kind=some R):cI aZ 122 [bd kind] (H rS R):=by
 refine dm Tryz.func122 I<|aY<|Q (cg hS)<|bO<|aT<|aX I<|bO<|ai<|aY<|dw I<|bj I<|mA h I (fun h=>?_) (fun h=>?_)
 ·exact aY<|Q (cg hS)<|cw<|bZ<|so h▸aq I I
 ·refine aY<|dw I<|bj I<|mA h I (fun h=>?_) (fun h=>?_)
  ·exact aY<|Q (cg hS)<|cw<|bZ<|so h▸aq I I
  ·refine aY<|dw I<|bj I<|mA h I (fun h=>?_) (fun h=>?_)
   ·exact aY<|Q (cg hS)<|cw<|bZ<|so h▸aq I I
   ·exact bk<|bq<|av<|aY<|Q (cg hS)<|cw<|so h▸aq I I

def YC t{R}(h:pL t=some R):cI aZ 75 [H cG t] (im R):=by
 refine dm Tryz.func75 I<|aY<|cK I<|bw<|bO<|aT<|ba Aq sR jG I<|eo h Xx (PP _) (dd I) fun r h=>Q (fV (M I))<|aX I<|au I (bR kR fY I I)<|au I (bM q9 I I)<|au I (kA p8 I)<|au I (fun D=>eP (bF I D) hI)<|eu I<|aX I<|au I (bR kR fY I I)<|au I (bM q9 I I) ?_;refine au I (kA p8 I)<|au I (fun D=>fa (bF I D) hI)<|eu I<|bY h I (fun h=>?_) (fun h=>?_)
 ·exact aY<|bw<|cw<|af<|so h▸aq I I
 ·refine gC<|aT<|bG<|bO<|ai<|bp ?_;refine ay (sl (h2:=fun n i=>jM t n i=some R) (Of:=fun i=>[]) (Gf:=fun i=>[(1,bt cG t),(3,bd i)]) (fun i h=>nn h) (fun n ih i h=>?_) gi (0:Int) h) (bb I);refine dX<|aT<|aX I<|ba kR fY q9 I<|bW p8 I<|sx I<|bY h I (fun h=>?_) (fun h=>?_)
  ·refine gC<|aD<|ai<|aY<|ba kR fY q9 I<|aX I<|cq h fun e q_e h=>dE p8 kl I q_e<|aV kl oq I fun b=>bL kl aj I<|aK 4 I<|bO<|aT<|ba tA lF jG I<|eo h Xx (PP _) (dd I) fun r1 h=>?_;refine Q (fV (M I))<|aX I<|cq h fun t1 q_t1 h=>au I (bR FJ wx I I)<|au I (bM cF I I) ?_
   obtain⟨r2,h1t1,h0t1⟩:=og q_t1
   have q_r2g:=fun Y=>(h1t1 Y).1
   refine au I (fun D=>bn abB (Wn _ (q_r2g D)) ⟨(bF I D),d⟩)<|au I (fun D=>fW (bF I D) hS)<|Q (cV (M I) (fun Y=>(bF I (nR Y))) (fun Y=>(h1t1 Y).2) h0t1)<|bY h I (fun h=>?_) (fun h=>?_)
   ·exact aY<|bw<|cw<|af<|bZ<|af<|bZ<|so h▸aq I I
   ·refine gC<|aY<|bG<|bO<|ai<|bp ?_;refine ay (sl (h2:=fun n1 k=>lk t (jM t n) i e n1 k=some R) (Of:=fun k=>[]) (Gf:=fun k=>[(1,bt cG t),(3,bd i),(4,bt cZ e),(5,bd k)]) (fun k h=>nn h) (fun n1 ih1 k h=>?_) gi (0:Int) h) (bb I);refine dX<|aT<|aX I<|aX I<|sx I<|bY h I (fun h=>?_) (fun h=>?_)
    ·refine gC<|aD<|ai<|aD<|cq h fun e1 q_e1 h=>?_
     refine eI (ts:=[_,_,_,_,_,_,_,_,_]) mixed I I
      ⟨ug 1 I I (oJ kR fY I I),
      ⟨jX 0 q9 I I,
      ⟨f8 I I,
      ⟨fg 51 1 52 2 I I I (Cc p8 kl I I I q_e1),
      ⟨ga 53 3 I I (oJ tA lF I I),
      ⟨jX 4 jG I I,
      ⟨ug 4 I I (oJ tA lF I I),
      ⟨jX 6 jG I I,
      ⟨fg 55 5 57 7 I I I (fW (M I) (M I)),
      d⟩⟩⟩⟩⟩⟩⟩⟩⟩ ?_
     refine av<|mA h I (fun h=>?_) (fun h=>?_)
     ·exact aY<|bw<|cw<|bZ<|af<|xF<|bZ<|af<|bZ<|so h▸aq I I
     ·refine bk<|bq<|av<|aJ<|aX I<|Q (fX (M I) hI)<|gE I<|bz ?_;exact aS (ay (ih1 (IntKind.i64.wrap (k+(1:Int))) h) (bb I))
    ·refine eY<|aI<|aI<|cW<|bq<|av<|aJ<|aX I<|Q (fX (M I) hI)<|gE I<|bz ?_;exact aS (ay (ih (IntKind.i64.wrap (i+(1:Int))) h) (bb I))
  ·refine eY<|aI<|aI<|cW<|av<|aT<|bG<|bO<|ai<|bp ?_;refine ay (sl (h2:=fun n2 i1=>lj t n2 i1=some R) (Of:=fun i1=>[]) (Gf:=fun i1=>[(1,bt cG t),(6,bd i1)]) (fun i1 h=>nn h) (fun n2 ih2 i1 h=>?_) gi (0:Int) h) (bb I);refine dX<|aT<|aX I<|ba u4 pn fL I<|bW fH I<|sx I<|bY h I (fun h=>?_) (fun h=>?_)
   ·refine gC<|aD<|ai<|aD<|cq h fun e2 q_e2 h=>cq h fun t2 q_t2 h=>?_
    obtain⟨t3,h1t2,h0t2⟩:=og q_t2
    have q_t3g:=fun Y=>(h1t2 Y).1
    obtain⟨e3,h1t3,h0t3⟩:=Yd q_t3g
    have q_e3g:=fun Y=>(h1t3 Y).1
    refine eI (ts:=[_,_,_,_,_,_,_,_,_,_,_,_,_,_,_,_,_,_,_,_,_,_,_,_,_,_,_,_,_,_,_,_,_,_,_]) mixed I I
     ⟨ug 1 I I (oJ u4 pn I I),
     ⟨jX 0 fL I I,
     ⟨f8 I I,
     ⟨fg 67 1 68 2 I I I (Cc fH cF I I I q_e2),
     ⟨jX 3 cF I I,
     ⟨ga 70 4 I I (eP (M I) hI),
     ⟨ga 71 5 I I (gH I),
     ⟨su 1 72 6 I I I (ep I I I I (fun D=>oJ u4 pn I I)),
     ⟨ml 73 7 72 6 I I I (ep I I I I (fun D=>fJ fL I I (bF I D))),
     ⟨su 6 72 6 I I I (ep I I I I (fun D=>gH I)),
     ⟨tM 74 8 75 9 72 6 I I I I (ep I I I I (fun D=>ev fH cF I (bF I D) (bF I D) q_e2)),
     ⟨ml 76 10 72 6 I I I (ep I I I I (fun D=>fJ cF I I (bF I D))),
     ⟨su 1 72 6 I I I (ep I I I I (fun D=>oJ kR fY I I)),
     ⟨ml 78 12 72 6 I I I (ep I I I I (fun D=>fJ q9 I I (bF I D))),
     ⟨ml 79 13 72 6 I I I (ep I I I I (fun D=>fN p8 (bF I D))),
     ⟨tM 77 11 80 14 72 6 I I I I (ep I I I I (fun D=>fh (bF I D) (bF I D))),
     ⟨fg 72 6 81 15 I I I (zpo I I),
     ⟨ga 82 16 I I (gH I),
     ⟨su 6 83 17 I I I (ep I I I I (fun D=>gH I)),
     ⟨ml 84 18 83 17 I I I (ep I I I I (fun D=>fa (bF I D) hI)),
     ⟨ml 85 19 83 17 I I I (ep I I I I (fun D=>bC (bF I D))),
     ⟨su 1 86 20 I I I (qJ I I I I (fun D=>oJ u4 pn I I)),
     ⟨ml 87 21 86 20 I I I (qJ I I I I (fun D=>fJ fL I I (bF I D))),
     ⟨su 6 86 20 I I I (qJ I I I I (fun D=>gH I)),
     ⟨ml 89 23 86 20 I I I (qJ I I I I (fun D=>fv (bF I D) hI)),
     ⟨tM 88 22 90 24 86 20 I I I I (qJ I I I I (fun D=>ev fH cF I (bF I D) (bF I D) (q_e3g D))),
     ⟨ml 91 25 86 20 I I I (qJ I I I I (fun D=>fJ cF I I (bF I D))),
     ⟨su 1 86 20 I I I (qJ I I I I (fun D=>oJ u4 pn I I)),
     ⟨ml 93 27 86 20 I I I (qJ I I I I (fun D=>fJ fL I I (bF I D))),
     ⟨su 6 86 20 I I I (qJ I I I I (fun D=>gH I)),
     ⟨tM 94 28 95 29 86 20 I I I I (qJ I I I I (fun D=>ev fH cF I (bF I D) (bF I D) q_e2)),
     ⟨ml 96 30 86 20 I I I (qJ I I I I (fun D=>fJ cF I I (bF I D))),
     ⟨tM 92 26 97 31 86 20 I I I I (qJ I I I I (fun D=>fh (bF I D) (bF I D))),
     ⟨tM 86 20 98 32 83 17 I I I I (ep I I I I (fun D=>bJ (bF I D) (fun Y=>(bF I (si D Y))) (fun Y=>(h1t3 (si D Y)).2) (fun Y=>h0t3 D Y))),
     ⟨fg 83 17 99 33 I I I (cV (M I) (fun Y=>(bF I (nR Y))) (fun Y=>(h1t2 Y).2) h0t2),
     d⟩⟩⟩⟩⟩⟩⟩⟩⟩⟩⟩⟩⟩⟩⟩⟩⟩⟩⟩⟩⟩⟩⟩⟩⟩⟩⟩⟩⟩⟩⟩⟩⟩⟩⟩ ?_
    refine av<|mA h I (fun h=>?_) (fun h=>?_)
    ·exact aY<|bw<|cw<|bZ<|af<|bZ<|so h▸aq I I
    ·refine bk<|bq<|av<|aJ<|aX I<|Q (fX (M I) hI)<|gE I<|bz ?_;exact aS (ay (ih2 (IntKind.i64.wrap (i1+(1:Int))) h) (bb I))
   ·exact eY<|aI<|aI<|cW<|av<|aY<|bw<|cw<|so h▸aq I I

def Y4 c{R}(h:wb c=some R):cI aZ 23 [H bK c] (im R):=by
 refine dm Tryz.func23 I<|aY<|cK I<|bw<|bO<|aT<|ba nk eK vV I<|bW sF I<|Q (fa (M I) hI)<|bY h I (fun h=>?_) (fun h=>?_)
 ·exact aY<|bw<|cw<|af<|so h▸aq I I
 ·refine gC<|aT<|bG<|bO<|ai<|bp ?_;refine ay (sl (h2:=fun n i=>nb c n i=some R) (Of:=fun i=>[]) (Gf:=fun i=>[(1,bt bK c),(3,bd i)]) (fun i h=>nn h) (fun n ih i h=>?_) gi (0:Int) h) (bb I);refine dX<|aT<|aX I<|ba nk eK vV I<|bW sF I<|sx I<|bY h I (fun h=>?_) (fun h=>?_)
  ·refine gC<|aD<|ai<|aT<|ba nk eK vV I<|aX I<|cq h fun e q_e h=>dE sF kM I q_e<|eo h acu (YC _) (dd I) fun r h=>Q (fV (M I))<|bY h I (fun h=>?_) (fun h=>?_)
   ·exact aY<|bw<|cw<|af<|bZ<|af<|bZ<|so h▸aq I I
   ·refine gC<|aY<|bG<|bO<|ai<|bp ?_;refine ay (sl (h2:=fun n1 k=>o8 c (nb c n) i e n1 k=some R) (Of:=fun k=>[]) (Gf:=fun k=>[(1,bt bK c),(3,bd i),(4,bd k)]) (fun k h=>nn h) (fun n1 ih1 k h=>?_) gi (0:Int) h) (bb I);refine dX<|aT<|aX I<|aX I<|sx I<|bY h I (fun h=>?_) (fun h=>?_)
    ·refine gC<|aD<|ai<|aD<|cq h fun e1 q_e1 h=>?_
     refine eI (ts:=[_,_,_,_,_,_,_,_,_,_,_,_,_]) mixed I I
      ⟨ug 1 I I (oJ nk eK I I),
      ⟨jX 0 vV I I,
      ⟨f8 I I,
      ⟨fg 29 1 30 2 I I I (Cc sF kM I I I q_e1),
      ⟨ga 31 3 I I (oJ Aq sR I I),
      ⟨jX 4 jG I I,
      ⟨ug 1 I I (oJ nk eK I I),
      ⟨jX 6 vV I I,
      ⟨f8 I I,
      ⟨fg 35 7 36 8 I I I (Cc sF kM I I I q_e),
      ⟨ga 37 9 I I (oJ Aq sR I I),
      ⟨jX 10 jG I I,
      ⟨fg 33 5 39 11 I I I (fW (M I) (M I)),
      d⟩⟩⟩⟩⟩⟩⟩⟩⟩⟩⟩⟩⟩ ?_
     refine av<|mA h I (fun h=>?_) (fun h=>?_)
     ·exact aY<|bw<|cw<|bZ<|af<|xF<|bZ<|af<|bZ<|so h▸aq I I
     ·refine bk<|bq<|av<|aJ<|aX I<|Q (fX (M I) hI)<|gE I<|bz ?_;exact aS (ay (ih1 (IntKind.i64.wrap (k+(1:Int))) h) (bb I))
    ·refine eY<|aI<|aI<|cW<|bq<|av<|aJ<|aX I<|Q (fX (M I) hI)<|gE I<|bz ?_;exact aS (ay (ih (IntKind.i64.wrap (i+(1:Int))) h) (bb I))
  ·exact eY<|aI<|aI<|cW<|av<|aY<|bw<|cw<|so h▸aq I I

def VT{R}(h:zt=some R):cI aZ 184 [] (H (qr rS 28) R):=by
 exact dm Tryz.func184 I<|aY<|aV (r:=(qr rS 28)) (x:=(List.replicate 28 [])) OX (fun _=>HB (r:=rS) 28 (fun _=>I) _) I fun b=>bO<|aY<|Q (sO (r:=rS) (ys:=[[83,69,76,69,67,84],[68,73,83,84,73,78,67,84],[70,82,79,77],[76,69,70,84],[74,79,73,78],[79,78],[87,72,69,82,69],[71,82,79,85,80],[66,89],[72,65,86,73,78,71],[85,78,73,79,78],[65,76,76],[79,82,68,69,82],[76,73,77,73,84],[65,83,67],[68,69,83,67],[65,83],[65,78,68],[79,82],[78,79,84],[73,83],[78,85,76,76],[84,82,85,69],[70,65,76,83,69],[67,79,85,78,84],[83,85,77],[77,73,78],[77,65,88]]) (xs:=[.const (.string ⟨#[83,69,76,69,67,84]⟩),.const (.string ⟨#[68,73,83,84,73,78,67,84]⟩),.const (.string ⟨#[70,82,79,77]⟩),.const (.string ⟨#[76,69,70,84]⟩),.const (.string ⟨#[74,79,73,78]⟩),.const (.string ⟨#[79,78]⟩),.const (.string ⟨#[87,72,69,82,69]⟩),.const (.string ⟨#[71,82,79,85,80]⟩),.const (.string ⟨#[66,89]⟩),.const (.string ⟨#[72,65,86,73,78,71]⟩),.const (.string ⟨#[85,78,73,79,78]⟩),.const (.string ⟨#[65,76,76]⟩),.const (.string ⟨#[79,82,68,69,82]⟩),.const (.string ⟨#[76,73,77,73,84]⟩),.const (.string ⟨#[65,83,67]⟩),.const (.string ⟨#[68,69,83,67]⟩),.const (.string ⟨#[65,83]⟩),.const (.string ⟨#[65,78,68]⟩),.const (.string ⟨#[79,82]⟩),.const (.string ⟨#[78,79,84]⟩),.const (.string ⟨#[73,83]⟩),.const (.string ⟨#[78,85,76,76]⟩),.const (.string ⟨#[84,82,85,69]⟩),.const (.string ⟨#[70,65,76,83,69]⟩),.const (.string ⟨#[67,79,85,78,84]⟩),.const (.string ⟨#[83,85,77]⟩),.const (.string ⟨#[77,73,78]⟩),.const (.string ⟨#[77,65,88]⟩)]) Tryz.underlying228 jG I OX I I ⟨hS,hS,hS,hS,hS,hS,hS,hS,hS,hS,hS,hS,hS,hS,hS,hS,hS,hS,hS,hS,hS,hS,hS,hS,hS,hS,hS,hS,d⟩)<|bL OX aj I<|aK 0 I<|cw<|so h▸sm I OX I I I

def FM s{R}(h:nO s=some R):cI aZ 146 [H rS s] (im R):=by
 refine dm Tryz.func146 I<|aY<|bw<|bO<|aT<|aX I<|Q (nQ gx (M I))<|Q (eP (M I) hI)<|aX I<|au I (da I)<|au I (fun D=>nQ gx (bF I D))<|au I (fun D=>fa (bF I D) hI)<|eu I<|aX I<|cq h fun t q_t h=>au I (da I) ?_
 obtain⟨b,h1t,h0t⟩:=og q_t
 have q_bg:=fun Y=>(h1t Y).1
 refine au I (fun D=>lM gx (bF I D) hI (q_bg D))<|au I (fun D=>eP (bF I D) hI)<|Q (cV (M I) (fun Y=>(bF I (nR Y))) (fun Y=>(h1t Y).2) h0t)<|aX I<|cq h fun t1 q_t1 h=>au I (da I) ?_
 obtain⟨b1,h1t1,h0t1⟩:=og q_t1
 have q_b1g:=fun Y=>(h1t1 Y).1
 refine au I (fun D=>lM gx (bF I D) hI (q_b1g D))<|au I (fun D=>fa (bF I D) hI)<|Q (cV (M I) (fun Y=>(bF I (nR Y))) (fun Y=>(h1t1 Y).2) h0t1)<|bY h I (fun h=>?_) (fun h=>?_)
 ·exact aY<|bw<|cw<|af<|so h▸aq I I
 ·refine gC<|aY<|jh (r:=(rI .u8)) (ys:=w9) (xs:=[]) FZ X1 I I I I I trivial I fun l c=>bj I<|aT<|aX I<|Q (nQ gx (M I))<|Q (bC hI)<|bO<|ai<|bp ?_;refine ay (KA (h2:=fun n up l1 c1 x=>lb s n up x=some R) (Of:=fun up l1 c1 x=>[gb (rI .u8) 5 l1 c1 up]) (Gf:=fun up l1 c1 x=>[(0,H rS s),(3,sn l1 c1 up),(29,iK s),(30,bd x)]) (fun up l1 c1 x h=>nn h) (fun n ih up l1 c1 x h=>?_) gi w9 l c (0:Int) h) (bb I);refine dX<|aY<|sx I<|bO<|aD<|mA h I (fun h=>?_) (fun h=>?_)
  ·refine gC<|aD<|ai<|aH I<|bj I<|aH I<|aX I<|cq h fun b2 q_b2 h=>Q (lM gx (M I) (M I) q_b2)<|bj I<|aH I<|Q (fh (M I) hI)<|aX I ?_;refine ap I (da I)<|ap I (fun D=>kD (bF I D) hI)<|eV I<|bj I<|aT<|aX I<|Q (fV (M I))<|aX I<|ap I (da I)<|ap I (fun D=>eP (bF I D) hI)<|ap I (q7 I)<|ft I I I I (fun D=>gH I)<|ft I I I I (fun D=>fa (bF I D) hI)<|ap I (fun D=>DW (bF I D) (fun Y=>(bF I (si D (nR Y)))))<|eV I<|aX I<|ap I (da I)<|ap I (tN I)<|eV I<|bz ?_;refine av<|mA h I (fun h=>?_) (fun h=>?_)
   ·exact aY<|bw<|cw<|af<|bZ<|af<|bZ<|aM<|so h▸aq I I
   ·refine gC ?_;refine ig (h2:=fun c2=>oj (lb s n) up x c2=some R) (Of:=fun c2=>[gb (rI .u8) 5 l1 c1 up]) (Gf:=fun c2=>[(0,H rS s),(3,sn l1 c1 up),(5,H (rI .u8) c2),(29,iK s),(30,bd x)]) (fun c2 h=>?_) (fun ax=>?_)
    ·skip
     refine aJ<|aX I<|aX I<|Q (a8 (r:=(rI .u8)) (ys:=[c2]) (xs:=[.tmp 60]) FZ X1 I I I I I ⟨(M I),d⟩)<|cq h fun up1 q_up1 h=>d8 X1 I I I I FZ I I (M I) (M I) q_up1 fun l2 c3=>gE I<|bz<|bq<|av<|aJ<|Q (fX (M I) hI)<|aX I<|bz ?_;exact aS (ay (ih up1 l2 c3 (IntKind.i64.wrap (x+(1:Int))) h) (bb I))
    ·skip
     refine aH I<|bY h I (fun h=>?_) (fun h=>?_)
     ·refine aJ<|aX I<|Q (fv (M I) hI)<|gE I<|bz ?_;exact cm (ax (IntKind.u8.wrap (b2-(32:Int))) h) (bb I)
     ·refine bk ?_;exact cm (ax b2 h) (bb I)
  ·refine eY<|aI<|aI<|cW<|av<|aT<|eo h aa5 VT trivial fun r h=>Q (bC hI)<|bO<|ai<|bp<|Eu<|HM 3 I ?_;refine ay (Kz (h2:=fun k i=>(28-i=k)/\mp up r k i=some R) (Of:=fun _ i=>[K (rI .u8) 5 l1 c1 up]) (Gf:=fun _ i=>[(3,tO (rI .u8) l1 c1 up),(64,H (qr rS 28) r),(65,bd (i:Int))]) (fun i h=>?_) (fun k1 ih1 i h=>?_) 28 0 ⟨I,h⟩) (bb I)
   ·obtain⟨A,h⟩:=h
    exact dX<|aY<|Q (eP (M I) hI)<|bO<|aD<|qB (M I) (Rd A)<|eY<|aI<|aI<|cW<|av<|aY<|bw<|cw<|aM<|so h▸aq I I
   ·obtain⟨A,h⟩:=h
    refine dX<|aY<|Q (eP (M I) hI)<|bO<|aD<|qA (M I) (Rc A)<|gC<|aD<|ai<|aY<|cq h fun e1 q_e1 h=>Q (xj Tryz.underlying228 jG I I (M I) (M I) q_e1)<|bj I<|aH I<|aX I<|Q (IU FZ OM gx X1 I (kB (M I))) ?_;refine Q (fW (M I) (M I))<|bY h I (fun h=>?_) (fun h=>?_)
    ·exact aY<|bw<|cw<|bZ<|af<|bZ<|aM<|so h▸aq I I
    ·refine bk<|bq<|av<|aJ<|Q (wl (Nz A (by decide)) (M I) hI)<|aX I<|bz ?_;exact aS (ay (ih1 (i+1) ⟨Ny A,h⟩) (bb I))

end Go.Proofs.YthbdkceckjihgaaGreatDoor

