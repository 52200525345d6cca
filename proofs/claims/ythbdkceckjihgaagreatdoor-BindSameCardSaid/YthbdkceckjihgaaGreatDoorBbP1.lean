/- du of this claim: P1. -/
import Derived.Test.YthbdkceckjihgaaGreatDoorBbT
import Derived.Test.YthbdkceckjihgaaGreatDoorBbP0
set_option linter.all false
namespace Go.Proofs.YthbdkceckjihgaaGreatDoor
open Go
set_option maxRecDepth 100000

def Ys s f{R}(h:eG s f=some R):cI aZ 90 [fm (bh) s,(gV aZ UI yE (fun(x:aQ)=>f x))] (im R):=by
 exact dm Tryz.func90 I<|aY<|bw<|bO<|aH I<|aX I<|eo h abr (We _ _) (dd I) fun r h=>Q (fh (M I) hI)<|be I<|so h▸aq I I

def FN s{R}(h:s7 s=some R):cI aZ 138 [H rS s] (im R):=by
 refine dm Tryz.func138 I<|aY<|bw<|bO<|aH I<|Q (fW (M I) hS)<|aX I<|cq h fun t q_t h=>au I (da I) ?_
 obtain⟨r,h1t,h0t⟩:=og q_t
 have q_rg:=fun Y=>(h1t Y).1
 exact au I (fun D=>bn Mh (zF _ (q_rg D)) ⟨(bF I D),d⟩)<|Q (cV (M I) (fun Y=>(bF I (nR Y))) (fun Y=>(h1t Y).2) h0t)<|be I<|so h▸aq I I

def PK s{R}(h:vK s=some R):cI aZ 136 [H bg s] (im R):=by
 refine dm Tryz.func136 I<|aY<|cK I<|bw<|bO<|aY<|ba Eg rf jG I<|eo h Mh (zF _) (dd I) fun r h=>aX I<|cq h fun t q_t h=>ap I (bR Ef re I I)<|ap I (bM jG I I) ?_
 obtain⟨r1,h1t,h0t⟩:=og q_t
 have q_r1g:=fun Y=>(h1t Y).1
 exact ap I (fun D=>bn Qb (FN _ (q_r1g D)) ⟨(bF I D),d⟩)<|Q (bJ (M I) (fun Y=>(bF I Y)) (fun Y=>(h1t Y).2) h0t)<|be I<|so h▸aq I I

def VN s f{R}(h:iL s f=some R):cI aZ 212 [fm (bI) s,(gV aZ UH yE (fun(x:dj)=>f x))] (bd R):=by
 refine dm Tryz.func212 I<|aY<|bG<|bO<|aT<|aX I<|bW KF I<|Q (bC hI)<|bO<|ai<|aO (k:=6) I fun hN=>bp ?_;refine ay (dz (h2:=fun ls i=>(s.drop i=ls)/\fi f ls i=some R) (Of:=fun _ i=>[]) (Gf:=fun _ i=>[(0,fm (bI) s),(1,(gV aZ UH yE (fun(x:dj)=>f x))),(7,iK s),(8,bd (i:Int))]) (fun i h=>?_) (fun e tl ih i h=>?_) s 0 ⟨I,h⟩) (bb I)
 ·obtain⟨A,h⟩:=h
  exact dh A I<|av<|aY<|dJ<|so h▸aq I I
 ·obtain⟨A,h⟩:=h
  refine dg A I<|aD<|ai<|aH I<|bj I<|aH I<|aX I<|aX I<|uC KF jY I (df A) ?_;refine cC jY I<|cq h fun r q_r h=>Q (iE (args:=UH) (res:=F3) (f:=(fun(x:dj)=>f x)) (x:=((e):dj)) (M I) q_r ⟨(M I),d⟩)<|bY h I (fun h=>?_) (fun h=>?_)
  ·exact aH I<|be I<|bZ<|af<|bZ<|so h▸aq I I
  ·refine bk<|cR A hN I ?_;exact aS (ay (ih (i+1) ⟨cM A,h⟩) (bb I))

def V3 s f{R}(h:gX s f=some R):cI aZ 170 [fm (bI) s,(gV aZ UH yE (fun(x:dj)=>f x))] (im R):=by
 exact dm Tryz.func170 I<|aY<|bw<|bO<|aH I<|aX I<|eo h aaX (VN _ _) (dd I) fun r h=>Q (fh (M I) hI)<|be I<|so h▸aq I I

def VD tag{R}(h:Ay tag=some R):cI aZ 233 [bd tag] (bd R):=by
 refine dm Tryz.func233 I<|aY<|bG<|bO<|aD<|ai<|aH I<|Q (eP (M I) hI)<|aX I<|au I (da I)<|au I (fun D=>fa (bF I D) hI)<|eu I<|bj I<|mA h I (fun h=>?_) (fun h=>?_)
 ·exact aY<|dJ<|bZ<|so h▸aq I I
 ·refine aH I<|Q (kD (M I) hI)<|bj I<|mA h I (fun h=>?_) (fun h=>?_)
  ·exact aY<|dJ<|bZ<|so h▸aq I I
  ·refine aH I<|Q (kD (M I) hI)<|bj I<|mA h I (fun h=>?_) (fun h=>?_)
   ·exact aY<|dJ<|bZ<|so h▸aq I I
   ·exact bk<|bq<|av<|aY<|dJ<|so h▸aq I I

def VA v{R}(h:ze v=some R):cI aZ 238 [H ei v] (H ei R):=by
 refine dm Tryz.func238 I<|aY<|AB (M I) I fun b=>aV lB od I fun b1=>bO<|aT<|bv 0 tB I<|Q (bB cF I I pm (.tail _ (.head _)) (M I))<|bO ?_;refine Js (h2:=fun v1=>lQ v1=some R) (Of:=fun v1=>[bx ei 104 b v1,bx ei 104 b1 HS]) (Gf:=fun v1=>[(1,tV (an b 0)),(2,tV (an b1 0))]) (fun v1 h=>?_) (fun ax=>?_)
 ·skip
  exact av<|aY<|Q (bB lB I I cD (.head _) (M I))<|dW<|bL lB aj I<|aK 2 I<|cw<|aM<|so h▸sm I lB I I I
 ·skip
  refine aD<|ai<|aD<|ai<|aD ?_;refine Js (h2:=fun v2=>ry v2=some R) (Of:=fun v2=>[bx ei 104 b v2,bx ei 104 b1 HS]) (Gf:=fun v2=>[(1,tV (an b 0)),(2,tV (an b1 0))]) (fun v2 h=>?_) (fun K1=>?_)
  ·skip
   refine av<|aY<|bv 0 tB I<|mw cF I BB I (M I) hI<|bO<|eY<|dc I<|aI<|dc I<|aI<|cW ?_;exact cm (ax (cJ.mk (0:Int) v2.N v2.U v2.S) h) (bb I)
  ·skip
   refine aD ?_;refine R4 (h2:=rx v=some R) (Of:=[bx ei 104 b v,bx ei 104 b1 HS]) (Gf:=[(1,tV (an b 0)),(2,tV (an b1 0))]) (fun h=>?_) (fun K2=>?_)
   ·skip
    refine av<|aJ<|bv 1 u5 I<|mw Uy I Gr I (M I) hI<|bz<|bq ?_;exact cm (K1 (cJ.mk v.Kind (0:Int) v.U v.S) h) (bb I)
   ·skip
    refine aD<|ai<|aD<|aT<|dw I<|bj I<|mA h I (fun h=>?_) (fun h=>?_)
    ·refine eY<|aI<|aI<|cW<|av<|aY<|bv 1 u5 I<|Q (bB Uy I I pl (.tail _ (.head _)) (M I))<|gW I<|aX I<|ap I (fun D=>lv 1 u5 I I I)<|ap I (fun D=>bB Uy I I pl (.tail _ (.head _)) (bF I D))<|ap I (tN I)<|eV I<|bY h I (fun h=>?_) (fun h=>?_)
     ·refine eY<|dc I<|aI<|dc I<|aI<|dc I<|aI<|dc I<|aI<|cW<|dM ?_;exact cm (ax v h) (bb I)
     ·refine bk<|bq<|dM ?_;exact cm (K2 h) (bb I)
    ·refine gC<|aT<|dw I<|bj I<|mA h I (fun h=>?_) (fun h=>?_)
     ·refine eY<|aI<|aI<|dc I<|aI<|cW<|dM ?_;exact cm (K2 h) (bb I)
     ·refine gC<|aT<|dw I<|bj I<|mA h I (fun h=>?_) (fun h=>?_)
      ·refine eY<|aI<|aI<|dc I<|aI<|dc I<|aI<|cW<|dM ?_;exact cm (K1 v h) (bb I)
      ·refine gC<|aT<|dw I<|bj I<|mA h I (fun h=>?_) (fun h=>?_)
       ·refine eY<|aI<|aI<|dc I<|aI<|dc I<|aI<|dc I<|aI<|cW<|av ?_;refine ig (h2:=fun v3=>ru v3=some R) (Of:=fun v3=>[bx ei 104 b v3,bx ei 104 b1 HS]) (Gf:=fun v3=>[(1,tV (an b 0)),(2,tV (an b1 0))]) (fun v3 h=>?_) (fun K3=>?_)
        ·skip
         refine eY<|dc I<|aI<|cW ?_;exact cm (ax v3 h) (bb I)
        ·skip
         refine aY<|bv 3 pX I<|Q (bB jG I I lc (.tail _ (.head _)) (M I))<|Q (nQ gx (M I))<|Q (kD (M I) hI)<|bY h I (fun h=>?_) (fun h=>?_)
         ·refine aJ<|bv 0 tB I<|dW<|mw cF I BB I (M I) hI<|bv 3 pX I<|mw jG I Gq I (M I) hS<|bz ?_;exact cm (K3 (cJ.mk (0:Int) v.N v.U ([])) h) (bb I)
         ·refine bk<|dM ?_;exact cm (K3 v h) (bb I)
       ·refine gC<|aY<|dw I<|bj I<|mA h I (fun h=>?_) (fun h=>?_)
        ·refine eY<|aI<|dc I<|aI<|dc I<|aI<|dc I<|aI<|dc I<|aI<|cW<|av<|aY<|bv 0 tB I<|dW<|mw cF I BB I (M I) hI<|bv 1 u5 I<|mw Uy I Gr I (M I) hI<|bv 2 FK I<|mw KV I MX I (M I) hI<|bO<|eY ?_;refine cW ?_;exact cm (ax (cJ.mk (0:Int) (0:Int) (0:Int) v.S) h) (bb I)
        ·refine gC<|eY<|dc I<|aI<|dc I<|aI<|dc I<|aI<|dc I<|aI<|dc I<|aI<|cW<|dM ?_;exact cm (ax v h) (bb I)

def VF v{R}(h:vZ v=some R):cI aZ 221 [H ei v] (bd R):=by
 refine dm Tryz.func221 I<|aY<|cK I<|bG<|bO<|aT<|cC lB I<|eo h aaK (VA _) (dd I) fun r h=>Q (bU lB C3 od I)<|Q (xT C9 (M I) (M I))<|bY h I (fun h=>?_) (fun h=>?_)
 ·exact aY<|dJ<|af<|so h▸aq I I
 ·exact gC<|aY<|dJ<|so h▸aq I I

def PF v{R}(h:tP v=some R):cI aZ 189 [H ei v] (im R):=by
 exact dm Tryz.func189 I<|aY<|cK I<|bw<|bO<|aY<|cC lB I<|eo h aaP (VF _) (dd I) fun r h=>dw I<|aX I<|ap I (bR tB pm I I)<|ap I (bM cF I I)<|ap I (tN I)<|eV I<|be I<|so h▸aq I I

def Vz s{R}(h:zR s=some R):cI aZ 243 [H rS s] (im R):=by
 refine dm Tryz.func243 I<|aY<|bw<|bO<|aT<|aX I<|Q (nQ gx (M I))<|Q (bC hI)<|bO<|ai<|bp ?_;refine ay (sl (h2:=fun n x=>pA s n x=some R) (Of:=fun x=>[]) (Gf:=fun x=>[(0,H rS s),(5,iK s),(6,bd x)]) (fun x h=>nn h) (fun n ih x h=>?_) gi (0:Int) h) (bb I);refine dX<|aY<|sx I<|bO<|aD<|mA h I (fun h=>?_) (fun h=>?_)
 ·refine gC<|aD<|ai<|aH I<|bj I<|aH I<|aX I<|cq h fun b q_b h=>Q (lM gx (M I) (M I) q_b)<|Q (eP (M I) hI)<|aX I<|cq h fun t q_t h=>au I (da I)<|au I (da I) ?_
  obtain⟨b1,h1t,h0t⟩:=og q_t
  have q_b1g:=fun Y=>(h1t Y).1
  refine au I (fun D=>lM gx (bF I D) (bF I D) (q_b1g D))<|au I (fun D=>fa (bF I D) hI)<|Q (cV (M I) (fun Y=>(bF I (nR Y))) (fun Y=>(h1t Y).2) h0t)<|bY h I (fun h=>?_) (fun h=>?_)
  ·exact aY<|bw<|cw<|bZ<|af<|bZ<|so h▸aq I I
  ·refine bk<|bq<|av<|aJ<|Q (fX (M I) hI)<|aX I<|bz ?_;exact aS (ay (ih (IntKind.i64.wrap (x+(1:Int))) h) (bb I))
 ·exact eY<|aI<|aI<|cW<|av<|aY<|bw<|cw<|so h▸aq I I

def VC n{R}(h:yw n=some R):cI aZ 234 [H dk n] (im R):=by
 refine dm Tryz.func234 I<|aY<|cK I<|bw<|bO<|aD ?_
 refine eI (ts:=[_,_,_,_,_,_,_,_,_,_,_,_,_,_]) mixed I I
  ⟨ug 1 I I (oJ tz pT I I),
  ⟨jX 0 jG I I,
  ⟨ga 6 1 I I (wk (M I) hS),
  ⟨ga 7 2 I I (gH I),
  ⟨su 1 8 3 I I I (ep I I I I (fun D=>oJ qF nj I I)),
  ⟨ml 9 4 8 3 I I I (ep I I I I (fun D=>fJ jG I I (bF I D))),
  ⟨ml 10 5 8 3 I I I (ep I I I I (fun D=>wk (bF I D) hS)),
  ⟨fg 8 3 11 6 I I I (zpo I I),
  ⟨ug 1 I I (oJ qG mq I I),
  ⟨jX 8 lB I I,
  ⟨zd0 I (bU lB C3 od I),
  ⟨fg 14 9 15 10 I I I (xT C9 (M I) (M I)),
  ⟨ga 12 7 I I (AW I),
  ⟨ga 16 11 I I (AW I),
  d⟩⟩⟩⟩⟩⟩⟩⟩⟩⟩⟩⟩⟩⟩ ?_
 refine av<|aT<|ba mh iA cF I<|bO<|ai<|aY<|dw I<|bj I<|mA h I (fun h=>?_) (fun h=>?_)
 ·refine aH I<|Q (fV (M I))<|aX I<|cq h fun t q_t h=>ap I (bR qG mq I I)<|ap I (bM lB I I) ?_
  obtain⟨r,h1t,h0t⟩:=og q_t
  have q_rg:=fun Y=>(h1t Y).1
  refine ap I (fun D=>bn Xk (PF _ (q_rg D)) ⟨(bF I D),d⟩)<|Q (bJ (M I) (fun Y=>(bF I Y)) (fun Y=>(h1t Y).2) h0t)<|aX I<|ap I (bR qG mq I I)<|ap I (fun D=>iI u5 I pl I (bF I D))<|ap I (bM Uy I I)<|ap I (fun D=>fh (bF I D) hI)<|eV I<|aX I<|cq h fun t1 q_t1 h=>ap I (bR qG mq I I)<|ap I (fun D=>iI pX I lc I (bF I D))<|ap I (bM jG I I) ?_
  obtain⟨r1,h1t1,h0t1⟩:=og q_t1
  have q_r1g:=fun Y=>(h1t1 Y).1
  exact ap I (fun D=>bn aaJ (Vz _ (q_r1g D)) ⟨(bF I D),d⟩)<|Q (bJ (M I) (fun Y=>(bF I Y)) (fun Y=>(h1t1 Y).2) h0t1)<|be I<|bZ<|so h▸aq I I
 ·refine aY<|dw I<|bj I<|mA h I (fun h=>?_) (fun h=>?_)
  ·refine aH I<|Q (fV (M I))<|aX I<|cq h fun t2 q_t2 h=>ap I (bR qF nj I I)<|ap I (bM jG I I) ?_
   obtain⟨r2,h1t2,h0t2⟩:=og q_t2
   have q_r2g:=fun Y=>(h1t2 Y).1
   refine ap I (fun D=>bn Mh (zF _ (q_r2g D)) ⟨(bF I D),d⟩)<|Q (bJ (M I) (fun Y=>(bF I Y)) (fun Y=>(h1t2 Y).2) h0t2)<|aX I<|cq h fun t3 q_t3 h=>ap I (bR tz pT I I)<|ap I (bM jG I I) ?_
   obtain⟨r3,h1t3,h0t3⟩:=og q_t3
   have q_r3g:=fun Y=>(h1t3 Y).1
   exact ap I (fun D=>bn Qb (FN _ (q_r3g D)) ⟨(bF I D),d⟩)<|Q (bJ (M I) (fun Y=>(bF I Y)) (fun Y=>(h1t3 Y).2) h0t3)<|be I<|bZ<|so h▸aq I I
  ·exact bk<|bq<|av<|aH I<|Q (fV (M I))<|aX I<|ap I (da I)<|ap I (sy I)<|eV I<|be I<|so h▸aq I I

def VM t{R}(h:Ep t=some R):cI aZ 213 [H bI t] (tT [fm (ii) R.1,im R.2]):=by
 refine dm Tryz.func213 I<|aY<|cK I<|xa (ii)<|bw<|bO<|aY<|cj false ii 300<|Q (cg y6)<|bO<|aY<|cj false aP 3<|Q (cg y6)<|bO<|aT<|oK j5 eN I ?_;refine cC sw I<|bW oZ I<|Q (bC hI)<|bO<|ai<|aO (k:=15) I fun hN=>bp<|ie ?_;refine ay (z2 (h2:=fun ls i all l c open1 l1 c1=>(t.Nodes.drop i=ls)/\n8 ls i all open1=some R) (Of:=fun _ i all l c open1 l1 c1=>[gb ii 300 l c all,gb aP 3 l1 c1 open1]) (Gf:=fun _ i all l c open1 l1 c1=>[(4,sn l c all),(5,sn l1 c1 open1),(15,fm (dk) t.Nodes),(16,iK t.Nodes),(17,bd (i:Int))]) (fun i all l c open1 l1 c1 h=>?_) (fun e tl ih i all l c open1 l1 c1 h=>?_) t.Nodes 0 ([]:List mf) none 0 w9 none 0 ⟨I,h⟩) (bb I)
 ·obtain⟨A,h⟩:=h
  refine dh A I<|av<|aD<|cq h fun t1 q_t1 h=>?_
  obtain⟨e1,h1t1,h0t1⟩:=og q_t1
  have q_e1g:=fun Y=>(h1t1 Y).1
  refine eI (ts:=[_,_,_,_,_,_,_,_,_,_,_,_,_,_,_,_,_,_,_,_,_]) mixed I I
   ⟨f8 I I,
   ⟨f8 I I,
   ⟨ga 105 1 I I (iv fH (.tail _ (.head _)) (M I)),
   ⟨ga 106 2 I I (zei I),
   ⟨ga 107 3 I I (gH I),
   ⟨su 4 108 4 I I I (j6 I I I I (fun D=>gH I)),
   ⟨ml 109 5 108 4 I I I (j6 I I I I (fun D=>iv EC (.head _) (bF I D))),
   ⟨ml 110 6 108 4 I I I (j6 I I I I (fun D=>kD (bF I D) hI)),
   ⟨fg 108 4 111 7 I I I (zpa I I),
   ⟨ga 112 8 I I (gH I),
   ⟨su 4 113 9 I I I (j6 I I I I (fun D=>gH I)),
   ⟨su 4 113 9 I I I (j6 I I I I (fun D=>gH I)),
   ⟨ml 115 11 113 9 I I I (j6 I I I I (fun D=>iv EC (.head _) (bF I D))),
   ⟨ml 116 12 113 9 I I I (j6 I I I I (fun D=>fv (bF I D) hI)),
   ⟨tM 114 10 117 13 113 9 I I I I (j6 I I I I (fun D=>cy EC AZ (.head _) (bF I D) (bF I D) (q_e1g D))),
   ⟨ml 118 14 113 9 I I I (j6 I I I I (fun D=>dV (o:=(IntKind.i64.wrap ((all.length:Int)-(1:Int))).toNat*2+0) (n:=(IntKind.i64.wrap ((all.length:Int)-(1:Int))).toNat*2+1) C6 I (.head _) (q_e1g D) (bF I D) I)),
   ⟨ml 119 15 113 9 I I I (j6 I I I I (fun D=>dQ (r:=ii) (i:=(IntKind.i64.wrap ((all.length:Int)-(1:Int)))) (foff:=1) cF I I yc I (.head _) (q_e1g D) (bF I D))),
   ⟨ml 120 16 113 9 I I I (j6 I I I I (fun D=>kD (bF I D) hI)),
   ⟨fg 113 9 121 17 I I I (bJ (M I) (fun Y=>(bF I Y)) (fun Y=>(h1t1 Y).2) h0t1),
   ⟨ga 104 0 I I (AW I),
   ⟨ga 122 18 I I (AW I),
   d⟩⟩⟩⟩⟩⟩⟩⟩⟩⟩⟩⟩⟩⟩⟩⟩⟩⟩⟩⟩⟩ ?_
  exact av<|wY<|tg<|jj 4 I<|jj 104 I<|jj 2 I<|nC 2 I<|aM<|aM<|so h▸cX I I I
 ·obtain⟨A,h⟩:=h
  refine dg A I<|aD<|ai<|aH I<|dE oZ lS I (df A)<|aV lS vY I fun b=>gE I<|bL lS aj I<|aK 7 I<|bO<|aD ?_;refine aJ<|ba mh iA cF I<|eo h aaO (VD _) (dd I) fun r h=>bj I<|aT<|aX I<|Q (eP (M I) hI)<|aX I<|au I (da I)<|au I (da I)<|au I (fun D=>iv fH (.tail _ (.head _)) (bF I D))<|au I (fun D=>fa (bF I D) (bF I D))<|eu I<|aX I<|cq h fun t2 q_t2 h=>au I (fun D=>qN lS I I) ?_
  obtain⟨r1,h1t2,h0t2⟩:=og q_t2
  have q_r1g:=fun Y=>(h1t2 Y).1
  refine au I (fun D=>bn aaN (VC _ (q_r1g D)) ⟨(bF I D),d⟩)<|au I (sy I)<|Q (cV (M I) (fun Y=>(bF I (nR Y))) (fun Y=>(h1t2 Y).2) h0t2)<|bY h I (fun h=>?_) (fun h=>?_)
  ·exact aY<|xa (ii)<|bw<|cw<|af<|bZ<|af<|bZ<|aM<|aM<|so h▸cX I I I
  ·refine gC<|aH I<|aX I<|Q (iv fH (.tail _ (.head _)) (M I))<|aX I<|Q (fv (M I) (M I))<|cq h fun y q_y h=>Q (tZ fH cF I (.tail _ (.head _)) (M I) (M I) q_y)<|sk (.tail _ (.head _)) q_y fun hv=>bj I<|aY<|jh (r:=aP) (ys:=[mi,mi]) (xs:=[.const (.int .i64 (-1)),.const (.int .i64 (-1))]) fH cF I I I I I ⟨hI,hI,d⟩ I fun l2 c2=>bj I<|aH I ?_;refine aX I<|cq h fun cp q_cp h=>jl (N3 (.tail _ (.tail _ (.head _))) q_y fH (US cF) (M I) (M I) (so q_cp)) I fun i1=>?_;refine(show RG _ _ _ _ [_,_,_] ((47,bd ((min y.length ([mi,mi]).length:Nat):Int))::_)from ?_);refine kW (Hq (so q_cp)) 44 I<|kW (Hq (so q_cp)) 10 I<|kW (Hq (so q_cp)) 45 I<|bO<|aD<|aD<|cq h fun e2 q_e2 h=>cq h fun t3 q_t3 h=>?_
   obtain⟨e3,h1t3,h0t3⟩:=og q_t3
   have q_e3g:=fun Y=>(h1t3 Y).1
   refine eI (ts:=[_,_,_,_,_,_,_,_,_,_,_,_,_,_]) mixed I I
    ⟨ug 7 I I (oJ wy ri I I),
    ⟨jX 0 cF I I,
    ⟨f8 I I,
    ⟨ga 50 2 I I (cy fH cF (.head _) (M I) hI q_e2),
    ⟨ga 51 3 I I (dQ (r:=aP) (i:=(0:Int)) (foff:=0) cF I I cD I (.head _) q_e2 (M I)),
    ⟨fg 49 1 52 4 I I I (dZ (M I) (M I)),
    ⟨ga 53 5 I I (gH I),
    ⟨su 7 54 6 I I I (ep I I I I (fun D=>oJ yj sU I I)),
    ⟨ml 55 7 54 6 I I I (ep I I I I (fun D=>fJ cF I I (bF I D))),
    ⟨su 10 54 6 I I I (ep I I I I (fun D=>gH I)),
    ⟨ml 57 9 54 6 I I I (ep I I I I (fun D=>cy fH cF (.head _) (bF I D) hI (q_e3g D))),
    ⟨ml 58 10 54 6 I I I (ep I I I I (fun D=>dQ (r:=aP) (i:=(1:Int)) (foff:=0) cF I I cD I (.head _) (q_e3g D) (bF I D))),
    ⟨tM 56 8 59 11 54 6 I I I I (ep I I I I (fun D=>dZ (bF I D) (bF I D))),
    ⟨fg 54 6 60 12 I I I (cV (M I) (fun Y=>(bF I (nR Y))) (fun Y=>(h1t3 Y).2) h0t3),
    d⟩⟩⟩⟩⟩⟩⟩⟩⟩⟩⟩⟩⟩⟩ ?_
   refine av<|mA h I (fun h=>?_) (fun h=>?_)
   ·exact aY<|xa (ii)<|bw<|cw<|af<|bZ<|af<|bZ<|aM<|aM<|aM<|so h▸cX I I I
   ·refine gC<|aH I<|Q (bU (y:=(⟨(i:Int),(1:Int)⟩:mf)) AZ aab KK (⟨_,_,_,_,_,I,Gp,I,(M I),⟨_,_,_,_,_,I,Gn,I,hI,I⟩⟩))<|aV AZ KK I fun b1=>bL AZ aj I<|bO<|aT<|aX I<|Q (Pf fH (.tail _ (.tail _ (.tail _ (.head _)))) q_y (M I))<|Q (bC hI)<|bO<|ai ?_
    have hN1:=hv.2
    refine bp<|ie<|yA<|ki<|ki ?_;refine ay (j8 (h2:=fun ls1 i2 b2=>(y.drop i2=ls1)/\p3 (n8 tl) i all open1 r ls1 b2=some R) (Of:=fun _ i2 b2=>[gb ii 300 l c all,gb aP 3 l1 c1 open1,bx ii 300 b1 b2]) (Gf:=fun _ i2 b2=>[(4,sn l c all),(5,sn l1 c1 open1),(6,bd (i:Int)),(8,bd r),(11,tV (an b1 0)),(15,fm (dk) t.Nodes),(16,iK t.Nodes),(17,bd (i:Int)),(64,tV (o0 1 l1 c1 (IntKind.i64.wrap ((open1.length:Int)-r)).toNat y.length)),(65,iK y),(66,bd (i2:Int))]) (fun i2 b2 h=>?_) (fun e4 tl1 ih1 i2 b2 h=>?_) y 0 (⟨(i:Int),(1:Int)⟩:mf) ⟨I,h⟩) (bb I)
    ·obtain⟨hx1,h⟩:=h
     refine dh hx1 I<|av<|aH I<|Q (bB AZ I I cD (.tail _ (.tail _ (.head _))) (M I))<|Q (a8 (r:=ii) (ys:=[b2]) (xs:=[.tmp 91]) EC AZ I I I I I ⟨(M I),d⟩)<|cq h fun all1 q_all1 h=>d8 AZ I I I I EC I I (M I) (M I) q_all1 fun l3 c3=>bj I<|aJ ?_;refine aX I<|aX I<|Q (iv fH (.tail _ (.head _)) (M I))<|aX I<|Q (fv (M I) (M I))<|cq h fun y1 q_y1 h=>Q (wj fH cF I (.tail _ (.head _)) (M I) (M I) q_y1)<|aX I<|Q (a8 (r:=aP) (ys:=[(i:Int)]) (xs:=[.tmp 100]) fH cF I I I I I ⟨(M I),d⟩)<|dW<|Kx q_y1<|cq h fun open2 q_open2 h=>d8 cF I I I I fH I I (M I) (M I) q_open2 fun l4 c4=>gE I<|bz<|cR A hN I<|gu<|aM<|dM ?_;exact aS (ay (ih (i+1) all1 l3 c3 open2 l4 c4 ⟨cM A,h⟩) (bb I))
    ·obtain⟨hx1,h⟩:=h
     refine dg hx1 I<|aD<|ai<|aY<|Q (A7 fH cF I (.tail _ (.head _)) q_y (M I) (M I) (df hx1))<|Q (dQ (r:=aP) (i:=((IntKind.i64.wrap ((open1.length:Int)-r))+(i2:Int))) (foff:=0) cF I I cD I (.tail _ (.head _)) (Bz q_y (df hx1)).1 (M I))<|bj I<|cq h fun e5 q_e5 h=>?_
     refine ek 19 [tc (tV (an b1 0)),tc (bd b2.first),tc (sn l c all),tc (bd e4),tc (tV (dS l (e4.toNat*2+0))),tc (tV (dS l (e4.toNat*2+0))),tc (bd e5.first),tc (bd (min b2.first e5.first)),tc (tV (an b1 1)),tc (bd b2.depth),tc (sn l c all),tc (bd e4),tc (tV (dS l (e4.toNat*2+0))),tc (tV (dS l (e4.toNat*2+1))),tc (bd e5.depth),tc (bd (IntKind.i64.wrap (e5.depth+(1:Int)))),tc (bd (max b2.depth (IntKind.i64.wrap (e5.depth+(1:Int))))),tc (tV (an b1 0)),tc (tR)] [false,false,false,false,false,false,false,false,false,false,false,false,false,false,false,false,false,false,true] [fun _=>[gb ii 300 l c all,gb aP 3 l1 c1 open1,bx ii 300 b1 b2],fun sg=>[bx ii 300 b1 ({b2 with first:=(min b2.first e5.first)}:mf),gb ii 300 l c all,gb aP 3 l1 c1 open1]] I mixed I I I I I
      ⟨⟨[⟨11,fun _=>tV (an b1 0),none⟩],_,0,0,I,⟨(fun _=>I),d⟩,I,I,I,I,I,fun _ sg _ _=>aa I (lv 0 J7 I I I)⟩,
      ⟨⟨[⟨70,fun _=>tV (an b1 0),some 0⟩],_,0,0,I,⟨(fun _=>I),d⟩,I,I,I,I,I,fK (fun sg=>aa I (bB cF I I Hd (.tail _ (.tail _ (.head _))) (M I)))⟩,
      ⟨⟨[⟨4,fun _=>tV (J l c all.length),none⟩],_,0,0,I,⟨(fun _=>I),d⟩,I,I,I,I,I,fun _ sg _ _=>aa I (gH I)⟩,
      ⟨⟨[⟨13,fun _=>H aP e4,none⟩],_,0,0,I,⟨(fun _=>I),d⟩,I,I,I,I,I,fun _ sg _ _=>aa I (gH I)⟩,
      ⟨⟨[⟨72,fun _=>tV (J l c all.length),some 2⟩,⟨73,fun _=>H aP e4,some 3⟩],_,0,0,I,⟨(fun _=>I),(fun _=>I),d⟩,I,I,I,I,I,fK (fun sg=>aa I (cy EC AZ (.head _) (M I) (M I) q_e5))⟩,
      ⟨⟨[⟨74,fun _=>tV (dS l (e4.toNat*2+0)),some 4⟩],_,0,0,I,⟨(fun _=>I),d⟩,I,I,I,I,I,fK (fun sg=>aa I (dV (o:=e4.toNat*2+0) (n:=e4.toNat*2+0) J7 I (.head _) q_e5 (M I) I))⟩,
      ⟨⟨[⟨75,fun _=>tV (dS l (e4.toNat*2+0)),some 5⟩],_,0,0,I,⟨(fun _=>I),d⟩,I,I,I,I,I,fK (fun sg=>aa I (dQ (r:=ii) (i:=e4) (foff:=0) cF I I Hd I (.head _) q_e5 (M I)))⟩,
      ⟨⟨[⟨71,fun _=>H aP b2.first,some 1⟩,⟨76,fun _=>H aP e5.first,some 6⟩],_,0,0,I,⟨(fun _=>I),(fun _=>I),d⟩,I,I,I,I,I,fun _ sg _ _=>aa I (oQ (M I) (M I))⟩,
      ⟨⟨[⟨11,fun _=>tV (an b1 0),none⟩],_,0,0,I,⟨(fun _=>I),d⟩,I,I,I,I,I,fun _ sg _ _=>aa I (lv 1 C6 I I I)⟩,
      ⟨⟨[⟨78,fun _=>tV (an b1 1),some 8⟩],_,0,0,I,⟨(fun _=>I),d⟩,I,I,I,I,I,fK (fun sg=>aa I (bB cF I I yc (.tail _ (.tail _ (.head _))) (M I)))⟩,
      ⟨⟨[⟨4,fun _=>tV (J l c all.length),none⟩],_,0,1,I,⟨(fun _=>I),d⟩,I,I,I,I,I,fun _ sg _ _=>aa I (gH I)⟩,
      ⟨⟨[⟨13,fun _=>H aP e4,none⟩],_,0,1,I,⟨(fun _=>I),d⟩,I,I,I,I,I,fun _ sg _ _=>aa I (gH I)⟩,
      ⟨⟨[⟨80,fun _=>tV (J l c all.length),some 10⟩,⟨81,fun _=>H aP e4,some 11⟩],_,0,1,I,⟨(fun _=>I),(fun _=>I),d⟩,I,I,I,I,I,um (fun sg=>aa I (cy EC AZ (.head _) (M I) (M I) q_e5)) (fK (fun sg=>aa I (cy EC AZ (.tail _ (.head _)) (M I) (M I) q_e5)))⟩,
      ⟨⟨[⟨82,fun _=>tV (dS l (e4.toNat*2+0)),some 12⟩],_,0,1,I,⟨(fun _=>I),d⟩,I,I,I,I,I,um (fun sg=>aa I (dV (o:=e4.toNat*2+0) (n:=e4.toNat*2+1) C6 I (.head _) q_e5 (M I) I)) (fK (fun sg=>aa I (dV (o:=e4.toNat*2+0) (n:=e4.toNat*2+1) C6 I (.tail _ (.head _)) q_e5 (M I) I)))⟩,
      ⟨⟨[⟨83,fun _=>tV (dS l (e4.toNat*2+1)),some 13⟩],_,0,1,I,⟨(fun _=>I),d⟩,I,I,I,I,I,um (fun sg=>aa I (dQ (r:=ii) (i:=e4) (foff:=1) cF I I yc I (.head _) q_e5 (M I))) (fK (fun sg=>aa I (dQ (r:=ii) (i:=e4) (foff:=1) cF I I yc I (.tail _ (.head _)) q_e5 (M I))))⟩,
      ⟨⟨[⟨84,fun _=>H aP e5.depth,some 14⟩],_,0,1,I,⟨(fun _=>I),d⟩,I,I,I,I,I,fun _ sg _ _=>aa I (fX (M I) hI)⟩,
      ⟨⟨[⟨79,fun _=>H aP b2.depth,some 9⟩,⟨85,fun _=>H aP (IntKind.i64.wrap (e5.depth+(1:Int))),some 15⟩],_,0,1,I,⟨(fun _=>I),(fun _=>I),d⟩,I,I,I,I,I,fun _ sg _ _=>aa I (FB (M I) (M I))⟩,
      ⟨⟨[⟨11,fun _=>tV (an b1 0),none⟩],_,0,0,I,⟨(fun _=>I),d⟩,I,I,I,I,I,fun _ sg _ _=>aa I (lv 0 J7 I I I)⟩,
      ⟨⟨[⟨87,fun _=>tV (an b1 0),some 17⟩,⟨77,fun _=>H aP (min b2.first e5.first),some 7⟩],_,I,⟨(fun _=>I),(fun _=>I),d⟩,I,I,I,fun sg=>bS I (EffOK.fr2 (dq cF I (uu Gp) I (M I) (M I)))⟩,
      d⟩⟩⟩⟩⟩⟩⟩⟩⟩⟩⟩⟩⟩⟩⟩⟩⟩⟩⟩ (fun sg=>?_)
     refine(show RG _ _ _ _ [_,_,_] _ from ?_);refine bv 1 C6 I<|bL cF Gn I<|bz<|cR hx1 hN1 I<|gu<|gu ?_;exact aS (ay (ih1 (i2+1) (mf.mk ({b2 with first:=(min b2.first e5.first)}:mf).first (max b2.depth (IntKind.i64.wrap (e5.depth+(1:Int))))) ⟨cM hx1,h⟩) (bb I))

end Go.Proofs.YthbdkceckjihgaaGreatDoor

