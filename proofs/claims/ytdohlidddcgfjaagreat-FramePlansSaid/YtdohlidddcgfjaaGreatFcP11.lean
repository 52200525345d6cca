/- cE of this claim: P11. -/
import Derived.Test.YtdohlidddcgfjaaGreatFcT
import Derived.Test.YtdohlidddcgfjaaGreatFcP10
set_option linter.all false
namespace Go.Proofs.YtdohlidddcgfjaaGreat
open Go
set_option maxRecDepth 100000

def Md a1 b{R}(h:nA a1 b=some R):cX bd 48 [jK a1,jK b] (fM R):=by
 refine dK Tryz.func48 J<|d<|bm<|bu<|aS<|Q J<|bI df J<|Q J<|bI df J<|s (du (D J) (D J))<|bW h J (fun h=>?_) (fun h=>?_)
 ·exact d<|bm<|bM<|af<|so h▸aA J J
 ·refine fN<|aS<|ca<|bu<|ak<|bo (k:=0) J fun hN=>bA ?_;refine aH (eU (aa:=fun ls i=>(a1.drop i=ls)/\pf b ls i=some R) (Of:=fun _ i=>[]) (Gf:=fun _ i=>[(0,jK a1),(1,jK b),(5,bH (i:Int))]) (fun i h=>?_) (fun e tl ih i h=>?_) a1 0 ⟨J,h⟩) (aX J)
  ·obtain⟨V,h⟩:=h
   exact Qi df V J<|au<|d<|bm<|bM<|so h▸aA J J
  ·obtain⟨V,h⟩:=h
   refine Qh df V J<|aP<|ak<|aP<|bR h fun e1 q_e1 h=>?_
   refine gO (ts:=[_,_,_,_,_,_,_,_,_]) mixed J J
    ⟨fP J J,
    ⟨fP J J,
    ⟨ga 17 0 18 1 J J J (B3 df bB J J J (dJ V)),
    ⟨lK 2 bB J J,
    ⟨fP J J,
    ⟨fP J J,
    ⟨ga 21 4 22 5 J J J (B3 df bB J J J q_e1),
    ⟨lK 6 bB J J,
    ⟨ga 20 3 24 7 J J J (du (D J) (D J)),
    aZ⟩⟩⟩⟩⟩⟩⟩⟩⟩ ?_
   refine au<|fy h J (fun h=>?_) (fun h=>?_)
   ·exact d<|bm<|bM<|cx<|af<|cx<|so h▸aA J J
   ·refine bc<|MR V hN J ?_;exact aU (aH (ih (i+1) ⟨da V,h⟩) (aX J))

def IC a1 b{R}(h:sy a1 b=some R):cX bd 142 [tD bN a1,tD bN b] (fM R):=by
 refine dK Tryz.func142 J<|d<|dl J<|dl J<|bm<|bu<|aS<|aQ f7 dw nM J<|bI j5 J<|aQ f7 dw nM J<|bI j5 J<|s (du (D J) (D J))<|bW h J (fun h=>?_) (fun h=>?_)
 ·exact d<|bm<|bM<|af<|so h▸aA J J
 ·refine fN<|aS<|aQ f7 dw nM J<|bI j5 J<|s (bT hI)<|bu<|ak<|bo (k:=14) J fun hN=>bA ?_;refine aH (eU (aa:=fun ls i=>(a1.Nodes.drop i=ls)/\qI b ls i=some R) (Of:=fun _ i=>[]) (Gf:=fun _ i=>[(2,ck bN a1),(3,ck bN b),(15,kE a1.Nodes),(16,bH (i:Int))]) (fun i h=>?_) (fun e tl ih i h=>?_) a1.Nodes 0 ⟨J,h⟩) (aX J)
  ·obtain⟨V,h⟩:=h
   exact ez V J<|au<|d<|bm<|bM<|so h▸aA J J
  ·obtain⟨V,h⟩:=h
   refine ew V J<|aP<|ak<|ax J<|aN J<|aP<|bR h fun e1 q_e1 h=>?_
   refine gO (ts:=[_,_,_,_,_,_,_,_,_,_,_]) mixed J J
    ⟨zZ 2 J J (oq f7 dw J J),
    ⟨lK 0 nM J J,
    ⟨fP J J,
    ⟨ga 20 1 21 2 J J J (B3 j5 eo J J J (dJ V)),
    ⟨lK 3 eo J J,
    ⟨zZ 3 J J (oq f7 dw J J),
    ⟨lK 5 nM J J,
    ⟨fP J J,
    ⟨ga 25 6 26 7 J J J (B3 j5 eo J J J q_e1),
    ⟨lK 8 eo J J,
    ⟨ga 23 4 28 9 J J J (vm VO (D J) (D J)),
    aZ⟩⟩⟩⟩⟩⟩⟩⟩⟩⟩⟩ ?_
   refine au<|fy h J (fun h=>?_) (fun h=>?_)
   ·exact d<|bm<|bM<|cx<|af<|cx<|so h▸aA J J
   ·refine bc<|dd V hN J ?_;exact aU (aH (ih (i+1) ⟨da V,h⟩) (aX J))

def UP a1 b{R}(h:sX a1 b=some R):cX bd 143 [em (bN) a1,em (bN) b] (fM R):=by
 refine dK Tryz.func143 J<|d<|bm<|bu<|aS<|Q J<|bI qD J<|Q J<|bI qD J<|s (du (D J) (D J))<|bW h J (fun h=>?_) (fun h=>?_)
 ·exact d<|bm<|bM<|af<|so h▸aA J J
 ·refine fN<|aS<|Q J<|bI qD J<|s (bT hI)<|bu<|ak<|bo (k:=11) J fun hN=>bA ?_;refine aH (eU (aa:=fun ls i=>(a1.drop i=ls)/\qi b ls i=some R) (Of:=fun _ i=>[]) (Gf:=fun _ i=>[(0,em (bN) a1),(1,em (bN) b),(12,kE a1),(13,bH (i:Int))]) (fun i h=>?_) (fun e tl ih i h=>?_) a1 0 ⟨J,h⟩) (aX J)
  ·obtain⟨V,h⟩:=h
   exact ez V J<|au<|d<|bm<|bM<|so h▸aA J J
  ·obtain⟨V,h⟩:=h
   refine ew V J<|aP<|ak<|ax J<|aN J<|aP<|bR h fun e1 q_e1 h=>bR h fun r q_r h=>?_
   refine gO (ts:=[_,_,_,_,_,_,_,_,_,_]) mixed J J
    ⟨fP J J,
    ⟨fP J J,
    ⟨ga 16 0 17 1 J J J (B3 qD gn J J J (dJ V)),
    ⟨lK 2 gn J J,
    ⟨fP J J,
    ⟨fP J J,
    ⟨ga 20 4 21 5 J J J (B3 qD gn J J J q_e1),
    ⟨lK 6 gn J J,
    ⟨ga 19 3 23 7 J J J (cD Sk (IC _ _ q_r) ⟨(D J),(D J),aZ⟩),
    ⟨ff 24 8 J J (fG (D J)),
    aZ⟩⟩⟩⟩⟩⟩⟩⟩⟩⟩ ?_
   refine au<|fy h J (fun h=>?_) (fun h=>?_)
   ·exact d<|bm<|bM<|cx<|af<|cx<|so h▸aA J J
   ·refine bc<|dd V hN J ?_;exact aU (aH (ih (i+1) ⟨da V,h⟩) (aX J))

def U3 a1 b{R}(h:rN a1 b=some R):cX bd 104 [tD aM a1,tD aM b] (fM R):=by
 refine dK Tryz.func104 J<|d<|dl J<|dl J<|bm<|bu<|aS<|aQ ft cB bB J<|aQ ft cB bB J<|s (du (D J) (D J))<|Q J<|aD J (bv jw fS J J)<|aD J (bq bB J J)<|aD J (bv jw fS J J)<|aD J (bq bB J J)<|aD J (fun Y=>du (bl J Y) (bl J Y))<|dG J<|Q J ?_;refine aD J (bv kz hE J J)<|aD J (bq bB J J)<|aD J (bv kz hE J J)<|aD J (bq bB J J)<|aD J (fun Y=>du (bl J Y) (bl J Y))<|dG J<|Q J<|aD J (bv p6 ip J J)<|aD J (bq bB J J)<|aD J (bv p6 ip J J)<|aD J (bq bB J J)<|aD J (fun Y=>du (bl J Y) (bl J Y))<|dG J<|Q J<|aD J (bv xa pX J J)<|aD J (bq zF J J)<|aD J (bv xa pX J J)<|aD J (bq zF J J)<|aD J (fun Y=>TE Gk (bl J Y) (bl J Y))<|dG J<|Q J<|aD J (bv qu jG J J)<|aD J (bq bB J J)<|aD J (bv qu jG J J) ?_;refine aD J (bq bB J J)<|aD J (fun Y=>du (bl J Y) (bl J Y))<|dG J<|bW h J (fun h=>?_) (fun h=>?_)
 ·exact d<|bm<|bM<|af<|so h▸aA J J
 ·refine fN<|aS<|aQ gA cO o0 J<|bI lb J<|aQ gA cO o0 J<|bI lb J<|s (du (D J) (D J))<|Q J<|aD J (bv jv ep J J)<|aD J (bq ur J J)<|aD J (gp rz J)<|aD J (bv jv ep J J)<|aD J (bq ur J J)<|aD J (gp rz J)<|aD J (fun Y=>du (bl J Y) (bl J Y))<|dG J<|Q J<|bR h fun t q_t h=>aD J (bv jI dW J J) ?_;refine aD J (bq cu J J)<|aD J (bv jI dW J J)<|aD J (bq cu J J) ?_
  obtain⟨r,h1t,h0t⟩:=og q_t
  have q_rg:=fun H=>(h1t H).1
  refine aD J (fun Y=>cD Ys (Md _ _ (q_rg Y)) ⟨(bl J Y),(bl J Y),aZ⟩)<|aD J (uo J)<|s (jl (D J) (fun H=>(bl J (sb H))) (fun H=>(h1t H).2) h0t)<|Q J<|bR h fun t1 q_t1 h=>aD J (bv ju dE J J)<|aD J (bq cu J J)<|aD J (bv ju dE J J)<|aD J (bq cu J J) ?_
  obtain⟨r1,h1t1,h0t1⟩:=og q_t1
  have q_r1g:=fun H=>(h1t1 H).1
  refine aD J (fun Y=>cD Ys (Md _ _ (q_r1g Y)) ⟨(bl J Y),(bl J Y),aZ⟩)<|aD J (uo J)<|s (jl (D J) (fun H=>(bl J (sb H))) (fun H=>(h1t1 H).2) h0t1)<|bW h J (fun h=>?_) (fun h=>?_)
  ·exact d<|bm<|bM<|af<|so h▸aA J J
  ·refine fN<|aS<|ca<|bu<|ak<|bA ?_;refine aH (zl (aa:=fun n i=>kJ a1 b n i=some R) (Of:=fun i=>[]) (Gf:=fun i=>[(2,ck aM a1),(3,ck aM b),(5,bH i)]) (fun i h=>nn h) (fun n ih i h=>?_) dk (0:Int) h) (aX J);refine cJ<|aS<|Q J<|aQ gA cO o0 J<|bI lb J<|jC J<|bW h J (fun h=>?_) (fun h=>?_)
   ·refine fN<|aP<|ak<|aP<|bR h fun e q_e h=>bR h fun e1 q_e1 h=>bR h fun t2 q_t2 h=>?_
    obtain⟨r2,h1t2,h0t2⟩:=og q_t2
    have q_r2g:=fun H=>(h1t2 H).1
    refine gO (ts:=[_,_,_,_,_,_,_,_,_,_,_,_,_,_,_,_,_,_,_,_,_,_,_,_,_,_,_,_,_]) mixed J J
     ⟨zZ 2 J J (oq gA cO J J),
     ⟨lK 0 o0 J J,
     ⟨fP J J,
     ⟨ga 87 1 88 2 J J J (B3 lb ig J J J q_e),
     ⟨ff 89 3 J J (oq jx hM J J),
     ⟨lK 4 bB J J,
     ⟨zZ 3 J J (oq gA cO J J),
     ⟨lK 6 o0 J J,
     ⟨fP J J,
     ⟨ga 93 7 94 8 J J J (B3 lb ig J J J q_e1),
     ⟨ff 95 9 J J (oq jx hM J J),
     ⟨lK 10 bB J J,
     ⟨ga 91 5 97 11 J J J (du (D J) (D J)),
     ⟨ff 98 12 J J (mt J),
     ⟨tt 2 99 13 J J J (iS J J J J (fun Y=>oq gA cO J J)),
     ⟨km 100 14 99 13 J J J (iS J J J J (fun Y=>ej o0 J J (bl J Y))),
     ⟨tt 5 99 13 J J J (iS J J J J (fun Y=>mt J)),
     ⟨CP 101 15 102 16 99 13 J J J J (iS J J J J (fun Y=>fJ lb ig J (bl J Y) (bl J Y) q_e)),
     ⟨km 103 17 99 13 J J J (iS J J J J (fun Y=>fj oe J ma J (bl J Y))),
     ⟨km 104 18 99 13 J J J (iS J J J J (fun Y=>ej gn J J (bl J Y))),
     ⟨tt 3 99 13 J J J (iS J J J J (fun Y=>oq gA cO J J)),
     ⟨km 106 20 99 13 J J J (iS J J J J (fun Y=>ej o0 J J (bl J Y))),
     ⟨tt 5 99 13 J J J (iS J J J J (fun Y=>mt J)),
     ⟨CP 107 21 108 22 99 13 J J J J (iS J J J J (fun Y=>fJ lb ig J (bl J Y) (bl J Y) q_e1)),
     ⟨km 109 23 99 13 J J J (iS J J J J (fun Y=>fj oe J ma J (bl J Y))),
     ⟨km 110 24 99 13 J J J (iS J J J J (fun Y=>ej gn J J (bl J Y))),
     ⟨CP 105 19 111 25 99 13 J J J J (iS J J J J (fun Y=>cD Sk (IC _ _ (q_r2g Y)) ⟨(bl J Y),(bl J Y),aZ⟩)),
     ⟨km 112 26 99 13 J J J (iS J J J J (fun Y=>fG (bl J Y))),
     ⟨ga 99 13 113 27 J J J (jl (D J) (fun H=>(bl J (sb H))) (fun H=>(h1t2 H).2) h0t2),
     aZ⟩⟩⟩⟩⟩⟩⟩⟩⟩⟩⟩⟩⟩⟩⟩⟩⟩⟩⟩⟩⟩⟩⟩⟩⟩⟩⟩⟩⟩ ?_
    refine au<|fy h J (fun h=>?_) (fun h=>?_)
    ·exact d<|bm<|bM<|cx<|af<|cx<|so h▸aA J J
    ·refine bc<|al<|au<|aj<|Q J<|s (cW (D J) hI)<|d6 J<|aJ ?_;exact aU (aH (ih (IntKind.i64.wrap (i+(1:Int))) h) (aX J))
   ·refine cQ<|ap<|ap<|bL<|au<|aS<|ca<|bu<|ak<|bA ?_;refine aH (zl (aa:=fun n1 i1=>kI a1 b n1 i1=some R) (Of:=fun i1=>[]) (Gf:=fun i1=>[(2,ck aM a1),(3,ck aM b),(6,bH i1)]) (fun i1 h=>nn h) (fun n1 ih1 i1 h=>?_) dk (0:Int) h) (aX J);refine cJ<|aS<|Q J<|aQ jv ep ur J<|bI rz J<|jC J<|bW h J (fun h=>?_) (fun h=>?_)
    ·refine fN<|aP<|ak<|aP<|bR h fun e2 q_e2 h=>bR h fun e3 q_e3 h=>?_
     refine gO (ts:=[_,_,_,_,_,_,_,_,_,_,_]) mixed J J
      ⟨zZ 2 J J (oq jv ep J J),
      ⟨lK 0 ur J J,
      ⟨fP J J,
      ⟨ga 123 1 124 2 J J J (B3 rz pA J J J q_e2),
      ⟨lK 3 pA J J,
      ⟨zZ 3 J J (oq jv ep J J),
      ⟨lK 5 ur J J,
      ⟨fP J J,
      ⟨ga 128 6 129 7 J J J (B3 rz pA J J J q_e3),
      ⟨lK 8 pA J J,
      ⟨ga 126 4 131 9 J J J (vm VP (D J) (D J)),
      aZ⟩⟩⟩⟩⟩⟩⟩⟩⟩⟩⟩ ?_
     refine au<|fy h J (fun h=>?_) (fun h=>?_)
     ·exact d<|bm<|bM<|cx<|af<|cx<|so h▸aA J J
     ·refine bc<|al<|au<|aj<|Q J<|s (cW (D J) hI)<|d6 J<|aJ ?_;exact aU (aH (ih1 (IntKind.i64.wrap (i1+(1:Int))) h) (aX J))
    ·refine cQ<|ap<|ap<|bL<|au<|d<|aQ pZ iQ gn J<|aQ pZ iQ gn J<|eE h Sk (IC _ _) (cy J) fun r3 h=>Q J<|bR h fun t3 q_t3 h=>ae J (bv oc io J J)<|ae J (bq wH J J)<|ae J (bv oc io J J)<|ae J (bq wH J J) ?_
     obtain⟨r4,h1t3,h0t3⟩:=og q_t3
     have q_r4g:=fun H=>(h1t3 H).1
     exact ae J (fun Y=>cD abv (UP _ _ (q_r4g Y)) ⟨(bl J Y),(bl J Y),aZ⟩)<|s (co (D J) (fun H=>(bl J H)) (fun H=>(h1t3 H).2) h0t3)<|bf J<|so h▸aA J J

def Xw a1 b{R}(h:wW a1 b=some R):cX bd 49 [tD lP a1,tD lP b] (fM R):=by
 refine dK Tryz.func49 J<|d<|dl J<|dl J<|bm<|bu<|aS<|aQ pb m8 qe J<|bI j4 J<|aQ pb m8 qe J<|bI j4 J<|s (du (D J) (D J))<|bW h J (fun h=>?_) (fun h=>?_)
 ·exact d<|bm<|bM<|af<|so h▸aA J J
 ·refine fN<|aS<|ca<|bu<|ak<|bA ?_;refine aH (zl (aa:=fun n i=>oI a1 b n i=some R) (Of:=fun i=>[]) (Gf:=fun i=>[(2,ck lP a1),(3,ck lP b),(5,bH i)]) (fun i h=>nn h) (fun n ih i h=>?_) dk (0:Int) h) (aX J);refine cJ<|aS<|Q J<|aQ pb m8 qe J<|bI j4 J<|jC J<|bW h J (fun h=>?_) (fun h=>?_)
  ·refine fN<|aP<|ak<|aP<|bR h fun e q_e h=>bR h fun e1 q_e1 h=>bR h fun r q_r h=>?_
   refine gO (ts:=[_,_,_,_,_,_,_,_,_,_,_,_]) mixed J J
    ⟨zZ 2 J J (oq pb m8 J J),
    ⟨lK 0 qe J J,
    ⟨fP J J,
    ⟨ga 21 1 22 2 J J J (B3 j4 dA J J J q_e),
    ⟨lK 3 dA J J,
    ⟨zZ 3 J J (oq pb m8 J J),
    ⟨lK 5 qe J J,
    ⟨fP J J,
    ⟨ga 26 6 27 7 J J J (B3 j4 dA J J J q_e1),
    ⟨lK 8 dA J J,
    ⟨ga 24 4 29 9 J J J (cD abN (U3 _ _ q_r) ⟨(D J),(D J),aZ⟩),
    ⟨ff 30 10 J J (fG (D J)),
    aZ⟩⟩⟩⟩⟩⟩⟩⟩⟩⟩⟩⟩ ?_
   refine au<|fy h J (fun h=>?_) (fun h=>?_)
   ·exact d<|bm<|bM<|cx<|af<|cx<|so h▸aA J J
   ·refine bc<|al<|au<|aj<|Q J<|s (cW (D J) hI)<|d6 J<|aJ ?_;exact aU (aH (ih (IntKind.i64.wrap (i+(1:Int))) h) (aX J))
  ·exact cQ<|ap<|ap<|bL<|au<|d<|bm<|bM<|so h▸aA J J

def XF a1 b{R}(h:wV a1 b=some R):cX bd 24 [tD gq a1,tD gq b] (fM R):=by
 refine dK Tryz.func24 J<|d<|dl J<|dl J<|bm<|bu<|aS<|aQ nI gV v8 J<|bI rA J<|aQ nI gV v8 J<|bI rA J<|s (du (D J) (D J))<|bW h J (fun h=>?_) (fun h=>?_)
 ·exact d<|bm<|bM<|af<|so h▸aA J J
 ·refine fN<|aS<|aQ nI gV v8 J<|bI rA J<|s (bT hI)<|bu<|ak<|bo (k:=16) J fun hN=>bA ?_;refine aH (eU (aa:=fun ls i=>(a1.Frags.drop i=ls)/\qH b ls i=some R) (Of:=fun _ i=>[]) (Gf:=fun _ i=>[(3,ck gq b),(16,em (cM) a1.Frags),(17,kE a1.Frags),(18,bH (i:Int))]) (fun i h=>?_) (fun e tl ih i h=>?_) a1.Frags 0 ⟨J,h⟩) (aX J)
  ·obtain⟨V,h⟩:=h
   exact ez V J<|au<|d<|bm<|bM<|so h▸aA J J
  ·obtain⟨V,h⟩:=h
   refine ew V J<|aP<|ak<|ax J<|dg rA nc J (dJ V)<|bz nc nf J fun b1=>d6 J<|bO nc aB J<|bj 6 J<|bu<|aP ?_;refine aj<|aQ nI gV v8 J<|Q J<|bR h fun e1 q_e1 h=>dg rA nc J q_e1<|bz nc nf J fun b2=>bO nc aB J<|bj 7 J<|bu<|d<|aQ vR oT bB J<|aQ vR oT bB J<|s (du (D J) (D J))<|Q J<|aD J (bv vQ oS J J)<|aD J (bq bB J J)<|aD J (bv vQ oS J J)<|aD J (bq bB J J) ?_;refine aD J (fun Y=>du (bl J Y) (bl J Y))<|dG J<|Q J<|bR h fun t q_t h=>aD J (bv sM lG J J)<|aD J (bq cu J J)<|aD J (bv sM lG J J)<|aD J (bq cu J J) ?_
   obtain⟨r,h1t,h0t⟩:=og q_t
   have q_rg:=fun H=>(h1t H).1
   refine aD J (fun Y=>cD Ys (Md _ _ (q_rg Y)) ⟨(bl J Y),(bl J Y),aZ⟩)<|aD J (uo J)<|s (jl (D J) (fun H=>(bl J (sb H))) (fun H=>(h1t H).2) h0t)<|Q J<|bR h fun t1 q_t1 h=>aD J (bv sN mF J J)<|aD J (bq qe J J)<|aD J (fun Y=>ee (y:=(⟨e.Nodes⟩:dZ)) FP ZH I9 (⟨_,_,_,_,_,J,Ei,J,(bl J Y),J⟩))<|aD J (bv sN mF J J)<|aD J (bq qe J J)<|aD J (fun Y=>ee (y:=(⟨e1.Nodes⟩:dZ)) FP ZH I9 (⟨_,_,_,_,_,J,Ei,J,(bl J Y),J⟩)) ?_
   obtain⟨r1,h1t1,h0t1⟩:=og q_t1
   have q_r1g:=fun H=>(h1t1 H).1
   refine aD J (fun Y=>cD acz (Xw _ _ (q_r1g Y)) ⟨(bl J Y),(bl J Y),aZ⟩)<|aD J (uo J)<|s (jl (D J) (fun H=>(bl J (sb H))) (fun H=>(h1t1 H).2) h0t1)<|bW h J (fun h=>?_) (fun h=>?_)
   ·exact d<|bm<|bM<|cx<|af<|cx<|so h▸aA J J
   ·refine bc<|dd V hN J ?_;exact aU (aH (ih (i+1) ⟨da V,h⟩) (aX J))

end Go.Proofs.YtdohlidddcgfjaaGreat

