/- da of this claim: P9. -/
import Derived.Test.YtfhhakidodmdfaaGreatDoorJdT
import Derived.Test.YtfhhakidodmdfaaGreatDoorJdP8
set_option linter.all false
namespace Go.Proofs.YtfhhakidodmdfaaGreatDoor
open Go
set_option maxRecDepth 100000

theorem U2(s1:(List ac))(s2:(List ac))(cmp:(ac→ac→Option Int)){R:Int}(h:cu s1 s2 cmp=some R):aU aO 160 [bR (af) s1,bR (af) s2,(dK aO pX yu (fun(x:ac×ac)=>cmp x.1 x.2))] (bH R):=by
 refine aU.of Tryz.func160 J J J fun w0 S0=>au<|zo J (cq)<|aq<|ah<|au<|aF J<|zo J (iw gc J)<|zo J (bJ hI)<|aq<|ay<|ba (k:=11) J fun hN=>bG ?_;refine aT (eH (Z:=fun ls i=>(s1.drop i=ls)∧bF s1 s2 cmp ls i=some R) (Of:=fun _ i=>[]) (Gf:=fun _ i=>[(0,bR (af) s1),(1,bR (af) s2),(2,(dK aO pX yu (fun(x:ac×ac)=>cmp x.1 x.2))),(11,bR (af) s1),(12,kg s1),(13,bH (i:Int))]) (fun i h=>?_) (fun e tl ih i h=>?_) s1 0 ⟨J,h⟩) (bt J)
 ·obtain⟨hx,h⟩:=h
  refine aC<|au<|zo J (fG J J)<|aq<|ah<|bA (ht J) (dC hx)<|bu ?_;refine ai (ai (aN ?_));refine av<|ah<|au<|aF rfl<|zo rfl (iw gc rfl)<|aF rfl<|zo rfl (iw gc rfl)<|zo rfl (fG rfl rfl)<|aq<|cU h rfl (fun h=>?_) (fun h=>?_)
  ·refine au<|zo J (cq)<|aq<|ak<|ae ?_;cases so h;exact aG J J
  ·refine dR<|au<|zo J (cq)<|aq<|ak ?_;cases so h;exact aG J J
 ·obtain⟨hx,h⟩:=h
  refine aC<|au<|zo J (fG J J)<|aq<|ah<|bz (ht J) (du hx)<|dR<|ah<|ay<|au<|aF J<|zo J (lq gc aH J J J (cW hx))<|zo J (bB aH J J)<|bc (r:=af) (x:=hX) aH (fun _=>bf _) J fun b=>bm J<|ax aH J an J (ht J) (ht J)<|aZ 8 J<|aq<|ah ?_;refine au<|aF J<|aF J<|zo J (iw gc J)<|zo J (hT (ht J) (ht J))<|aq<|cU h J (fun h=>?_) (fun h=>?_)
  ·refine au<|zo J (cq)<|aq<|ak ?_;refine ae (aD (ae (ae (aD (ae ?_)))));cases so h;exact aG J J
  ·refine dR<|au<|aF J<|aF J<|bv h fun e1 q_e1 h=>zo J (lq gc aH J J J q_e1)<|zo J (bB aH J J)<|bc (r:=af) (x:=hX) aH (fun _=>bf _) J fun b1=>ax aH J an J (ht J) (ht J)<|aZ 9 J<|aq<|au<|aF J<|zo J (bB aH J J)<|zo J (bB aH J J)<|bv h fun r q_r h=>zo J (fN (args:=pX) (res:=Qj) (f:=(fun(x:ac×ac)=>cmp x.1 x.2)) (x:=((e,e1):ac×ac)) (ht J) q_r ⟨(ht J),(ht J),aR⟩)<|bm J<|aq ?_;refine au<|aF J<|zo J (tE J)<|aq<|cU h J (fun h=>?_) (fun h=>?_)
   ·refine au<|aF J<|bm J<|aq<|ak ?_;refine aD (ae (ae (aD (ae ?_))));cases so h;exact aG J J
   ·refine bw<|ap<|av<|aw<|zo rfl (mI (cQ hx hN) rfl)<|aF rfl<|aQ ?_;exact bg (aT (ih (i+1) ⟨cP hx,h⟩) (bt J))

theorem N5(p:Int){R:Bool}(h:nX p=some R):aU aO 311 [tD He p] (gY R):=by
 refine aU.of Tryz.func311 J J J fun w0 S0=>au<|zo J (jE)<|aq<|au<|aF J<|aF J<|zo J (eZ (ht J) (ht J))<|bm J<|aq<|ak ?_;cases so h;exact aG J J

theorem UH(p:Int)(y:Int){R:Int}(h:mD p y=some R):aU aO 244 [tD He p,tD He y] (bH R):=by
 refine aU.of Tryz.func244 J J J fun w0 S0=>au<|zo J (cq)<|aq<|au<|aF J<|bv h fun r q_r h=>zo J (aA Wf (N5 _ q_r) ⟨(ht J),aR⟩)<|bm J<|aq<|au<|aF J<|bv h fun r1 q_r1 h=>zo J (aA Wf (N5 _ q_r1) ⟨(ht J),aR⟩)<|bm J<|aq<|ah<|ah ?_;refine aw<|aF J<|aq<|cU h J (fun h=>?_) (fun h=>?_)
 ·refine ah<|au<|aF J<|aq<|cU h J (fun h=>?_) (fun h=>?_)
  ·refine au<|zo J (cq)<|aq<|ak ?_;refine ae (ae ?_);cases so h;exact aG J J
  ·refine dR<|au<|zo J (cq)<|aq<|ak<|ae ?_;cases so h;exact aG J J
 ·refine dR<|ah<|au<|aF J<|aq<|cU h J (fun h=>?_) (fun h=>?_)
  ·refine au<|zo J (cq)<|aq<|ak<|ae ?_;cases so h;exact aG J J
  ·refine dR<|ah<|au<|aF J<|aF J<|zo J (fG J J)<|aq<|cU h J (fun h=>?_) (fun h=>?_)
   ·refine au<|zo J (cq)<|aq<|ak<|ae ?_;cases so h;exact aG J J
   ·refine dR<|ah<|au<|aF J<|aF J<|zo J (jm (ht J) (ht J))<|aq<|cU h J (fun h=>?_) (fun h=>?_)
    ·refine au<|zo J (cq)<|aq<|ak<|ae ?_;cases so h;exact aG J J
    ·refine dR<|au<|zo J (cq)<|aq<|ak ?_;cases so h;exact aG J J

theorem N4(p:wz){R:Bool}(h:nY p=some R):aU aO 312 [tD rS p] (gY R):=by
 refine aU.of Tryz.func312 J J J fun w0 S0=>au<|zo J (jE)<|aq<|au<|aF J<|aF J<|zo J (Ny (ht J) (ht J))<|bm J<|aq<|ak ?_;cases so h;exact aG J J

theorem UG(p:wz)(y:wz){R:Int}(h:mE p y=some R):aU aO 245 [tD rS p,tD rS y] (bH R):=by
 refine aU.of Tryz.func245 J J J fun w0 S0=>au<|zo J (cq)<|aq<|au<|aF J<|bv h fun r q_r h=>zo J (aA We (N4 _ q_r) ⟨(ht J),aR⟩)<|bm J<|aq<|au<|aF J<|bv h fun r1 q_r1 h=>zo J (aA We (N4 _ q_r1) ⟨(ht J),aR⟩)<|bm J<|aq<|ah<|ah ?_;refine aw<|aF J<|aq<|cU h J (fun h=>?_) (fun h=>?_)
 ·refine ah<|au<|aF J<|aq<|cU h J (fun h=>?_) (fun h=>?_)
  ·refine au<|zo J (cq)<|aq<|ak ?_;refine ae (ae ?_);cases so h;exact aG J J
  ·refine dR<|au<|zo J (cq)<|aq<|ak<|ae ?_;cases so h;exact aG J J
 ·refine dR<|ah<|au<|aF J<|aq<|cU h J (fun h=>?_) (fun h=>?_)
  ·refine au<|zo J (cq)<|aq<|ak<|ae ?_;cases so h;exact aG J J
  ·refine dR<|ah<|au<|aF J<|aF J<|zo J (ND (ht J) (ht J))<|aq<|cU h J (fun h=>?_) (fun h=>?_)
   ·refine au<|zo J (cq)<|aq<|ak<|ae ?_;cases so h;exact aG J J
   ·refine dR<|ah<|au<|aF J<|aF J<|zo J (Tp (ht J) (ht J))<|aq<|cU h J (fun h=>?_) (fun h=>?_)
    ·refine au<|zo J (cq)<|aq<|ak<|ae ?_;cases so h;exact aG J J
    ·refine dR<|au<|zo J (cq)<|aq<|ak ?_;cases so h;exact aG J J

theorem U1(a1:ac)(b:ac){R:Int}(h:oN a1 b=some R):aU aO 161 [tD af a1,tD af b] (bH R):=by
 refine aU.of Tryz.func161 J J J fun w0 S0=>au<|zo J (jw J)<|zo J (jw J)<|zo J (cq)<|aq<|ah<|bv h fun r q_r h=>bv h fun r1 q_r1 h=>bv h fun r2 q_r2 h=>bv h fun r3 q_r3 h=>bv h fun r4 q_r4 h=>?_
 refine cJ (ts:=[_,_,_,_,_,_,_,_,_,_,_,_,_,_,_,_,_,_,_,_,_,_,_]) mixed J J
  ⟨ep 2 J J J (cY fR cg J J),
  ⟨bT 5 0 J J J (bB cv J J),
  ⟨ep 3 J J J (cY fR cg J J),
  ⟨bT 7 2 J J J (bB cv J J),
  ⟨dv 6 1 8 3 J J J J (aA Yl (Mz _ _ q_r) ⟨(ht J),(ht J),aR⟩),
  ⟨ep 2 J J J (cY iZ dm J J),
  ⟨bT 10 5 J J J (bB Bl J J),
  ⟨ep 3 J J J (cY iZ dm J J),
  ⟨bT 12 7 J J J (bB Bl J J),
  ⟨dv 11 6 13 8 J J J J (aA Wo (Oe _ _ q_r1) ⟨(ht J),(ht J),aR⟩),
  ⟨ep 2 J J J (cY qr iY J J),
  ⟨bT 15 10 J J J (bB Al J J),
  ⟨ep 3 J J J (cY qr iY J J),
  ⟨bT 17 12 J J J (bB Al J J),
  ⟨dv 16 11 18 13 J J J J (aA aar (UH _ _ q_r2) ⟨(ht J),(ht J),aR⟩),
  ⟨ep 2 J J J (cY oX gN J J),
  ⟨bT 20 15 J J J (bB Le J J),
  ⟨ep 3 J J J (cY oX gN J J),
  ⟨bT 22 17 J J J (bB Le J J),
  ⟨dv 21 16 23 18 J J J J (aA aaq (UG _ _ q_r3) ⟨(ht J),(ht J),aR⟩),
  ⟨⟨[⟨9,_,some 4⟩,⟨14,_,some 9⟩,⟨19,_,some 14⟩,⟨24,_,some 19⟩],_,J,⟨J,J,J,J,aR⟩,J,J,aB J (aV (r:=bY) (ys:=[r,r1,r2,r3]) (xs:=[.tmp 9,.tmp 14,.tmp 19,.tmp 24]) g9 cv J J J J J ⟨(ht J),(ht J),(ht J),(ht J),aR⟩)⟩,
  ⟨bT 25 20 J J J (aA Sj (Ii _ q_r4) ⟨(ht J),aR⟩),
  ⟨bT 26 21 J J J (tA J),
  aR⟩⟩⟩⟩⟩⟩⟩⟩⟩⟩⟩⟩⟩⟩⟩⟩⟩⟩⟩⟩⟩⟩⟩ ?_
 refine av<|ak ?_;cases so h;exact aG J J

theorem H8(a1:(List ac))(b:(List ac)){R:Int}(h:o6 a1 b=some R):aU aO 95 [bR (af) a1,bR (af) b] (bH R):=by
 refine aU.of Tryz.func95 J J J fun w0 S0=>au<|zo J (cq)<|aq<|au<|aF J<|aF J<|bv h fun r q_r h=>zo J (aA aa3 (U2 _ _ _ q_r) ⟨(ht J),(ht J),(yX aa2 fun x y h=>U1 _ _ h),aR⟩)<|bm J<|aq<|ak ?_;cases so h;exact aG J J

theorem RE(a1:(List ac))(b:(List ac)){R:Int}(h:o8 a1 b=some R):aU aO 38 [bR (af) a1,bR (af) b] (bH R):=by
 refine aU.of Tryz.func38 J J J fun w0 S0=>au<|zo J (cq)<|aq<|ah<|au<|aF J<|bv h fun r q_r h=>zo J (aA Vx (H9 _ q_r) ⟨(ht J),aR⟩)<|zo J (ei (ht J))<|aF J<|bv h fun t q_t h=>gI J J (fun hg=>cD J) ?_
 obtain⟨r1,h1t,h0t⟩:=og q_t
 have q_r1g:=fun hb=>(h1t hb).1
 refine gI J J (fun hg=>aA Vx (H9 _ (q_r1g hg)) ⟨(bD J hg),aR⟩)<|gI J J (fun hg=>ei (bD J hg))<|zo J (ko (ht J) (fun hb=>(bD J (yA hb))) (fun hb=>(h1t hb).2) h0t)<|aq<|cU h J (fun h=>?_) (fun h=>?_)
 ·refine au<|zo J (cq)<|aq<|ak<|ae ?_;cases so h;exact aG J J
 ·refine dR<|au<|aF J<|aF J<|bv h fun r2 q_r2 h=>zo J (aA Vw (H8 _ _ q_r2) ⟨(ht J),(ht J),aR⟩)<|bm J<|aq<|ak ?_;cases so h;exact aG J J

theorem Ij(a1:ac)(b:ac){R:Int}(h:ie a1 b=some R):aU aO 136 [tD af a1,tD af b] (bH R):=by
 refine aU.of Tryz.func136 J J J fun w0 S0=>au<|zo J (jw J)<|zo J (jw J)<|zo J (cq)<|aq<|au<|zo J (bB aH J J)<|zo J (aV (r:=af) (ys:=[a1]) (xs:=[.tmp 5]) gc aH J J J J J ⟨(ht J),aR⟩)<|zo J (bB aH J J)<|zo J (aV (r:=af) (ys:=[b]) (xs:=[.tmp 7]) gc aH J J J J J ⟨(ht J),aR⟩)<|bv h fun r q_r h=>zo J (aA ZG (RE _ _ q_r) ⟨(ht J),(ht J),aR⟩)<|bm J<|aq<|ak ?_;cases so h;exact aG J J

theorem U9(p:(List ac))(cmp:(ac→ac→Option Int)){R:ac}(h:eV p cmp=some R):aU aO 137 [bR (af) p,(dK aO pX yu (fun(x:ac×ac)=>cmp x.1 x.2))] (tD af R):=by
 refine aU.of Tryz.func137 J J J fun w0 S0=>au<|bc (r:=af) (x:=hX) aH (fun _=>bf _) J fun b=>aq ?_;refine vl (Z:=gj p cmp=some R) (Of:=[bx af 46 b hX]) (Gf:=[(0,bR (af) p),(1,(dK aO pX yu (fun(x:ac×ac)=>cmp x.1 x.2))),(4,tV (aP b 0))]) (fun h=>?_) (fun K=>?_)
 ·skip
  refine au<|aF J<|bv h fun e q_e h=>zo J (bp j3 aH J (ht J) hI q_e)<|zo J (bB aH J J)<|bc (r:=af) (x:=hX) aH (fun _=>bf _) J fun b1=>ax aH J an J (ht J) (ht J)<|aq<|ah<|au<|zo J (cq)<|aq<|ay<|ba (k:=0) J fun hN=>bG<|iF ?_;refine aT (nO (Z:=fun ls i m=>(p.drop i=ls)∧cG cmp ls m=some R) (Of:=fun _ i m=>[bx af 46 b hX,bx af 46 b1 m]) (Gf:=fun _ i m=>[(0,bR (af) p),(1,(dK aO pX yu (fun(x:ac×ac)=>cmp x.1 x.2))),(4,tV (aP b 0)),(5,tV (aP b1 0)),(6,bH (i:Int))]) (fun i m h=>?_) (fun e1 tl ih i m h=>?_) (p.drop (1)) 1 e ⟨J,h⟩) (bt J)
  ·obtain⟨hx,h⟩:=h
   refine aC<|ah<|au<|aF J<|aF J<|zo J (iw j3 J)<|zo J (fG J J)<|aq<|bA (ht J) (dC hx)<|bu ?_;refine ai (ai (aN ?_));refine av<|au<|zo rfl (cd aH rfl rfl bQ (.tail _ (.head _)) (ht rfl))<|ax aH rfl an rfl (ht rfl) (ht rfl)<|aZ 4 rfl<|aq<|ak<|bk ?_;cases so h;exact iN J aH J J J
  ·obtain⟨hx,h⟩:=h
   refine aC<|ah<|au<|aF J<|aF J<|zo J (iw j3 J)<|zo J (fG J J)<|aq<|bz (ht J) (du hx)<|dR<|ah<|ay<|ah<|bv h fun r q_r h=>?_
   refine cJ (ts:=[_,_,_,_,_,_,_,_]) mixed J J
    ⟨ep 1 J J J (cD J),
    ⟨ep 0 J J J (cD J),
    ⟨ep 6 J J J (cD J),
    ⟨dv 21 1 22 2 J J J J (lq j3 aH J J J (cW hx)),
    ⟨bT 23 3 J J J (bB aH J J),
    ⟨ep 5 J J J (cd aH J J bQ (.tail _ (.head _)) (ht J)),
    ⟨Ga 20 0 24 4 25 5 J J J J J (fN (args:=pX) (res:=Qj) (f:=(fun(x:ac×ac)=>cmp x.1 x.2)) (x:=((e1,m):ac×ac)) (ht J) q_r ⟨(ht J),(ht J),aR⟩),
    ⟨bT 26 6 J J J (jm (ht J) hI),
    aR⟩⟩⟩⟩⟩⟩⟩⟩ ?_
   refine av<|cU h rfl (fun h=>?_) (fun h=>?_)
   ·refine aw<|aF J<|aF J<|zo J (lq j3 aH J J J (cW hx))<|zo J (bB aH J J)<|bI<|ax aH J an J (ht J) (ht J)<|aQ<|ap<|av<|aw<|aF rfl<|zo rfl (mI (cQ hx hN) rfl)<|bm rfl<|aQ<|bE ?_;exact bg (aT (ih (i+1) e1 ⟨cP hx,h⟩) (bt J))
   ·refine bw<|ap<|av<|aw<|aF rfl<|zo rfl (mI (cQ hx hN) rfl)<|bm rfl<|aQ ?_;exact bg (aT (ih (i+1) m ⟨cP hx,h⟩) (bt J))
 ·skip
  refine au<|aF J<|zo J (iw j3 J)<|zo J (fa (ht J) hI)<|aq<|cU h J (fun h=>?_) (fun h=>?_)
  ·refine aw ?_;exact(nn h).elim
  ·refine bw ?_;exact cM (K h) (bt J)

theorem XH(a1:hY)(rows:(List (List ac))){R:ac×Int}(h:lT a1 rows=some R):aU aO 76 [tD gm a1,bR (cK) rows] (tT [tD af R.1,bH R.2]):=by
 refine aU.of Tryz.func76 J J J fun w0 S0=>au<|zo J (jw J)<|bc (r:=af) (x:=hX) aH (fun _=>bf _) J fun b=>zo J (cq)<|aq<|ah<|au<|zo J (cY zD s0 J J)<|zo J (bB cv J J)<|zo J (lU J)<|aq<|cU h J (fun h=>?_) (fun h=>?_)
 ·refine au<|aF J<|zo J (iw gR J)<|bv h fun r q_r h=>zo J (aA KC (AS _ q_r) ⟨(ht J),aR⟩)<|ax aH J an J (ht J) (ht J)<|zo J (cq)<|aq<|ak<|ae<|bn 4 J ?_;cases so h;exact bS J J ⟨br aH J J J,aX J,aR⟩
 ·refine dR<|au<|zo J (bB wu J J)<|aF J<|bv h fun r1 q_r1 h=>zo J (aA abf (Ve _ _ q_r1) ⟨(ht J),(ht J),aR⟩)<|aF J<|zo J (hZ J J)<|zo J (hZ J J)<|bm J<|bm J<|aq<|ah<|au<|aF J<|zo J (lU J)<|aq<|cU h J (fun h=>?_) (fun h=>?_)
  ·refine au<|zo J (ci (y:=hX) aH pL bf (J))<|aF J<|ax aH J an J (ht J) (ht J)<|bm J<|aq<|ak<|ae<|bn 4 J ?_;cases so h;exact bS J J ⟨br aH J J J,aX J,aR⟩
  ·refine dR<|au<|zo J (aJ (show aI _ _ _ ((dK aO Ai kN (fun(x:ac)=>mB x)))from(yX abe fun x y h=>Vd _ h)))<|aq<|ah<|ay<|au<|zo J (cY zD s0 J J)<|zo J (bB cv J J)<|zo J (lU J)<|aF J<|bv h fun t q_t h=>cR J J (fun hg=>cD J)<|cR J J (fun hg=>cD J) ?_
   obtain⟨r2,h1t,h0t⟩:=og q_t
   have q_r2g:=fun hb=>(h1t hb).1
   refine cR J J (fun hg=>aA abd (Vc _ _ (q_r2g hg)) ⟨(bD J hg),(bD J hg),aR⟩)<|zo J (dP (ht J) (fun hb=>(bD J hb)) (fun hb=>(h1t hb).2) h0t)<|bm J<|aq<|cU h J (fun h=>?_) (fun h=>?_)
   ·refine au<|zo J (ci (y:=hX) aH pL bf (J))<|ax aH J an J (ht J) (ht J)<|zo J (cq)<|aq<|ak ?_;refine aD (ae ?_);refine bn 4 J ?_;cases so h;exact bS J J ⟨br aH J J J,aX J,aR⟩
   ·refine au<|aF J<|zo J (tE J)<|bm J<|aq<|cU h J (fun h=>?_) (fun h=>?_)
    ·refine au<|zo J (ci (y:=hX) aH pL bf (J))<|aF J<|ax aH J an J (ht J) (ht J)<|bm J<|aq<|ak ?_;refine aD (ae ?_);refine bn 4 J ?_;cases so h;exact bS J J ⟨br aH J J J,aX J,aR⟩
    ·refine au<|zo J (cY zD s0 J J)<|zo J (bB cv J J)<|zo J (lU J)<|bm J<|aq<|cU h J (fun h=>?_) (fun h=>?_)
     ·refine au<|aF J<|zo J (iw j3 J)<|bv h fun r3 q_r3 h=>zo J (aA KC (AS _ q_r3) ⟨(ht J),aR⟩)<|ax aH J an J (ht J) (ht J)<|zo J (cq)<|aq<|ak ?_;refine aD (ae ?_);refine bn 4 J ?_;cases so h;exact bS J J ⟨br aH J J J,aX J,aR⟩
     ·refine au<|zo J (cY zD s0 J J)<|zo J (bB cv J J)<|zo J (lU J)<|bm J<|aq<|cU h J (fun h=>?_) (fun h=>?_)
      ·refine au<|aF J<|bv h fun r4 q_r4 h=>zo J (aA abc (Vb _ q_r4) ⟨(ht J),aR⟩)<|zo J (hZ J J)<|zo J (hZ J J)<|ax aH J an J (ht J) (ht J)<|bm J<|aq<|ak ?_;refine aD (ae ?_);refine bn 4 J ?_;cases so h;exact bS J J ⟨br aH J J J,aX J,aR⟩
      ·refine au<|aF J<|zo J (iw j3 J)<|zo J (lU J)<|bm J<|aq<|cU h J (fun h=>?_) (fun h=>?_)
       ·refine au<|zo J (ci (y:=hX) aH pL bf (J))<|ax aH J an J (ht J) (ht J)<|zo J (cq)<|aq<|ak ?_;refine aD (ae ?_);refine bn 4 J ?_;cases so h;exact bS J J ⟨br aH J J J,aX J,aR⟩
       ·refine au<|zo J (cY zD s0 J J)<|zo J (bB cv J J)<|zo J (lU J)<|bm J<|aq<|cU h J (fun h=>?_) (fun h=>?_)
        ·refine au<|aF J<|bv h fun r5 q_r5 h=>zo J (aA abb (Va _ _ q_r5) ⟨(ht J),(yX Sl fun x y h=>Ij _ _ h),aR⟩)<|ax aH J an J (ht J) (ht J)<|zo J (cq)<|aq<|ak ?_;refine aD (ae ?_);refine bn 4 J ?_;cases so h;exact bS J J ⟨br aH J J J,aX J,aR⟩
        ·refine bw<|ap<|av<|au<|aF rfl<|bv h fun r6 q_r6 h=>zo J (aA aba (U9 _ _ q_r6) ⟨(ht J),(yX Sl fun x y h=>Ij _ _ h),aR⟩)<|ax aH J an J (ht J) (ht J)<|zo J (cq)<|aq<|ak<|bn 4 J ?_;cases so h;exact bS J J ⟨br aH J J J,aX J,aR⟩

theorem My(l:(List (List (List ac)))){R:Int}(h:uP l=some R):aU aO 97 [bR (d7) l] (bH R):=by
 refine aU.of Tryz.func97 J J J fun w0 S0=>au<|zo J (cq)<|aq<|au<|zo J (cq)<|aq<|ah<|au<|aF J<|zo J (iw p8 J)<|zo J (bJ hI)<|aq<|ay<|ba (k:=8) J fun hN=>bG ?_;refine aT (nO (Z:=fun ls i n=>(l.drop i=ls)∧kT ls n=some R) (Of:=fun _ i n=>[]) (Gf:=fun _ i n=>[(3,bH n),(8,bR (d7) l),(9,kg l),(10,bH (i:Int))]) (fun i n h=>?_) (fun e tl ih i n h=>?_) l 0 (0:Int) ⟨J,h⟩) (bt J)
 ·obtain⟨hx,h⟩:=h
  refine aC<|au<|zo J (fG J J)<|aq<|ah<|bA (ht J) (dC hx)<|bu ?_;refine ai (ai (aN ?_));refine av<|ah<|au<|aF rfl<|zo rfl (jm (ht rfl) hI)<|aq<|cU h rfl (fun h=>?_) (fun h=>?_)
  ·refine au<|zo J (cq)<|aq<|ak<|ae ?_;cases so h;exact aG J J
  ·refine dR<|au<|zo J (cq)<|aq<|ak ?_;cases so h;exact aG J J
 ·obtain⟨hx,h⟩:=h
  refine aC<|au<|zo J (fG J J)<|aq<|ah<|bz (ht J) (du hx)<|dR<|ah<|ay<|au<|zo J (lq p8 hJ J J J (cW hx))<|zo J (bB hJ J J)<|bm J<|aq<|ah<|au<|aF J<|zo J (iw gR J) ?_;refine zo J (bJ hI)<|aq<|ay<|ba (k:=14) J fun hN1=>bG ?_;refine aT (eH (Z:=fun ls1 i1=>(e.drop i1=ls1)∧pz (kT tl) e n ls1=some R) (Of:=fun _ i1=>[]) (Gf:=fun _ i1=>[(3,bH n),(5,bR (cK) e),(8,bR (d7) l),(9,kg l),(10,bH (i:Int)),(14,bR (cK) e),(15,kg e),(16,bH (i1:Int))]) (fun i1 h=>?_) (fun e1 tl1 ih1 i1 h=>?_) e 0 ⟨J,h⟩) (bt J)
  ·obtain⟨hx1,h⟩:=h
   refine aC<|au<|zo J (fG J J)<|aq<|ah<|bA (ht J) (dC hx1)<|bu ?_;refine ai (ai (aN ?_));refine av<|aw<|aF rfl<|aF rfl<|zo rfl (iw gR rfl)<|zo rfl (NC (ht rfl) (ht rfl))<|bm rfl<|aQ<|ap<|av<|aw<|zo rfl (mI (cQ hx hN) rfl)<|aF rfl<|aQ ?_;exact bg (aT (ih (i+1) (max n (e.length:Int)) ⟨cP hx,h⟩) (bt J))
  ·obtain⟨hx1,h⟩:=h
   refine aC<|au<|zo J (fG J J)<|aq<|ah<|bz (ht J) (du hx1)<|dR<|ah<|ay<|au<|zo J (lq gR cO J J J (cW hx1))<|zo J (bB cO J J)<|bm J<|aq<|au<|aF J<|bv h fun r q_r h=>zo J (aA Vx (H9 _ q_r) ⟨(ht J),aR⟩) ?_;refine zo J (ei (ht J))<|aq<|cU h J (fun h=>?_) (fun h=>?_)
   ·refine au<|zo J (cq)<|aq<|ak ?_;refine aD (ae (ae (aD (ae (aD (ae (ae (aD (ae ?_)))))))));cases so h;exact aG J J
   ·refine bw<|ap<|av<|aw<|zo rfl (mI (cQ hx1 hN1) rfl)<|aF rfl<|aQ ?_;exact bg (aT (ih1 (i1+1) ⟨cP hx1,h⟩) (bt J))

theorem UF(c:Int){R:Bool}(h:tI c=some R):aU aO 257 [bH c] (gY R):=by
 refine aU.of Tryz.func257 J J J fun w0 S0=>au<|zo J (jE)<|aq<|au<|aF J<|zo J (fa (ht J) hI)<|bm J<|aq<|ak ?_;cases so h;exact aG J J

theorem Um(r:(List ac))(c:Int){R:Bool}(h:xH r c=some R):aU aO 322 [bH c,bK cK r] (gY R):=by
 refine aU.of Tryz.func322 J J J fun w0 S0=>au<|zo J (jE)<|aq<|au<|aF J<|zo J (fa (ht J) hI)<|aF J<|gI J J (fun hg=>cD J)<|gI J J (fun hg=>bB cO J J)<|gI J J (fun hg=>dW gc (bD J hg))<|gI J J (fun hg=>hT (bD J hg) (bD J hg))<|zo J (yr J J)<|bm J<|aq<|ak ?_;cases so h;exact aG J J

theorem UE(r:(List ac))(columns:(List Int)){R:Bool}(h:C4 r columns=some R):aU aO 259 [bR (af) r,mf columns] (gY R):=by
 refine aU.of Tryz.func259 J J J fun w0 S0=>au<|zo J (jw J)<|zo J (jE)<|aq<|au<|zo J ((show bO _ _ _ _ ((dK aO IV kN (fun(x:Int)=>(xH r) x)))from fW (cts:=[bK cK r]) (caps:=[.tmp 2]) Z4 ⟨(ht J),aR⟩ (fun x y h=>Um _ _ h)))<|bm J<|aq<|au<|aF J<|zo J (iw g9 J)<|zo J (lL (ht J) hI)<|aF J<|bv h fun t q_t h=>cR J J (fun hg=>cD J)<|cR J J (fun hg=>cD J) ?_
 obtain⟨r1,h1t,h0t⟩:=og q_t
 have q_r1g:=fun hb=>(h1t hb).1
 refine cR J J (fun hg=>aA Oz (Dg _ _ (q_r1g hg)) ⟨(bD J hg),(bD J hg),aR⟩)<|cR J J (fun hg=>ei (bD J hg))<|zo J (dP (ht J) (fun hb=>(bD J hb)) (fun hb=>(h1t hb).2) h0t)<|bm J<|aq<|ak ?_;cases so h;exact aG J J

theorem UY(l:(List (List ac)))(columns:(List Int)){R:Int}(h:xI l columns=some R):aU aO 173 [bR (cK) l,mf columns] (bH R):=by
 refine aU.of Tryz.func173 J J J fun w0 S0=>au<|zo J (cq)<|aq<|ah<|au<|aF J<|zo J (aV (r:=d7) (ys:=[l]) (xs:=[.tmp 9]) p8 hJ J J J J J ⟨(ht J),aR⟩)<|bv h fun r q_r h=>zo J (aA Yk (My _ q_r) ⟨(ht J),aR⟩)<|bm J<|aq<|au<|aF J<|zo J (tE J)<|aq<|cU h J (fun h=>?_) (fun h=>?_)
 ·refine au<|aF J<|bm J<|aq<|ak<|ae ?_;cases so h;exact aG J J
 ·refine dR<|au<|zo J (aJ (show aI _ _ _ ((dK aO IV kN (fun(x:Int)=>tI x)))from(yX aap fun x y h=>UF _ h)))<|aq<|ah<|au<|aF J<|zo J (iw g9 J)<|zo J (jm (ht J) hI)<|aF J<|bv h fun t q_t h=>gI J J (fun hg=>cD J)<|gI J J (fun hg=>cD J) ?_
  obtain⟨r1,h1t,h0t⟩:=og q_t
  have q_r1g:=fun hb=>(h1t hb).1
  refine gI J J (fun hg=>aA Oz (Dg _ _ (q_r1g hg)) ⟨(bD J hg),(bD J hg),aR⟩)<|zo J (ko (ht J) (fun hb=>(bD J (yA hb))) (fun hb=>(h1t hb).2) h0t)<|aq<|cU h J (fun h=>?_) (fun h=>?_)
  ·refine au<|zo J (cq)<|aq<|ak<|ae ?_;cases so h;exact aG J J
  ·refine dR<|ah<|au<|aF J<|zo J (iw gR J)<|zo J (bJ hI)<|aq<|ay<|ba (k:=23) J fun hN=>bG ?_;refine aT (eH (Z:=fun ls i=>(l.drop i=ls)∧pC columns ls=some R) (Of:=fun _ i=>[]) (Gf:=fun _ i=>[(1,mf columns),(23,bR (cK) l),(24,kg l),(25,bH (i:Int))]) (fun i h=>?_) (fun e tl ih i h=>?_) l 0 ⟨J,h⟩) (bt J)
   ·obtain⟨hx,h⟩:=h
    refine aC<|au<|zo J (fG J J)<|aq<|ah<|bA (ht J) (dC hx)<|bu ?_;refine ai (ai (aN ?_));refine av<|au<|zo rfl (cq)<|aq<|ak ?_;cases so h;exact aG J J
   ·obtain⟨hx,h⟩:=h
    refine aC<|au<|zo J (fG J J)<|aq<|ah<|bz (ht J) (du hx)<|dR<|ah<|ay<|au<|zo J (lq gR cO J J J (cW hx))<|zo J (bB cO J J)<|bm J<|aq<|au<|aF J<|aF J<|bv h fun r2 q_r2 h=>?_;refine zo J (aA aao (UE _ _ q_r2) ⟨(ht J),(ht J),aR⟩)<|zo J (ei (ht J))<|aq<|cU h J (fun h=>?_) (fun h=>?_)
    ·refine au<|zo J (cq)<|aq<|ak ?_;refine aD (ae (ae (aD (ae ?_))));cases so h;exact aG J J
    ·refine bw<|ap<|av<|aw<|zo rfl (mI (cQ hx hN) rfl)<|aF rfl<|aQ ?_;exact bg (aT (ih (i+1) ⟨cP hx,h⟩) (bt J))

theorem EM(s:(List ac)){R:(List ac)}(h:cz s=some R):fT aO 106 [bR (af) s] false af 46 R:=by
 refine fT.of Tryz.func106 J J J fun w0 S0=>au<|bN false af 46<|zo J (aJ rY)<|aq<|ah<|au<|aF J<|td gc (ht J) J fun isnil hisnil=>aq<|oG (ht J) (fun hc=>?_) (fun hc=>?_)
 ·have hx:=hisnil hc
  have h:some Hf=some R:=by simpa [cz,app,hx] using h
  refine au<|bN false af 46<|zo J (aJ rY)<|aq<|ak<|ae ?_;cases so h;exact fQ J J
 ·refine dR<|au<|jZ (r:=af) (ys:=Hf) (xs:=[]) gc aH J J J J J trivial J fun l c=>aF J<|bv h fun x q_x h=>cT aH J J J J gc J J (ht J) (ht J) q_x fun l1 c1=>bm J<|aq<|ak ?_;cases so h;exact fQ J J
end Go.Proofs.YtfhhakidodmdfaaGreatDoor

