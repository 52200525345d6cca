/- cX of this claim: P9. -/
import Derived.Test.YtfhhakidodmdfaaGreatDoorJhT
import Derived.Test.YtfhhakidodmdfaaGreatDoorJhP8
set_option linter.all false
namespace Go.Proofs.YtfhhakidodmdfaaGreatDoor
open Go
set_option maxRecDepth 100000

theorem JV(s1:(List M))(s2:(List M))(cmp:(M→M→Option Int)){R:Int}(h:dN s1 s2 cmp=some R):aN aJ 160 [bK (ac) s1,bK (ac) s2,(cB aJ lC sI (fun(x:M×M)=>cmp x.1 x.2))] (bu R):=by
 refine aN.of Tryz.func160 J J J fun w0 S0=>ap<|zo J (bO)<|al<|ae<|ap<|aB J<|zo J (eH lG J)<|zo J (br hI)<|al<|au<|aU (k:=11) J fun hN=>bo ?_;refine aI (cN (Z:=fun ls i=>(s1.drop i=ls)∧cz s1 s2 cmp ls i=some R) (Of:=fun _ i=>[]) (Gf:=fun _ i=>[(0,bK (ac) s1),(1,bK (ac) s2),(2,(cB aJ lC sI (fun(x:M×M)=>cmp x.1 x.2))),(11,bK (ac) s1),(12,fC s1),(13,bu (i:Int))]) (fun i h=>?_) (fun e tl ih i h=>?_) s1 0 ⟨J,h⟩) (bh J)
 ·obtain⟨hx,h⟩:=h
  refine aw<|ap<|zo J (dC J J)<|al<|ae<|bm (ht J) (cx hx)<|be ?_;refine af (af (aE ?_));refine ak<|ae<|ap<|aB rfl<|zo rfl (eH lG rfl)<|aB rfl<|zo rfl (eH lG rfl)<|zo rfl (dC rfl rfl)<|al<|bX h rfl (fun h=>?_) (fun h=>?_)
  ·refine ap<|zo J (bO)<|al<|ai<|aa ?_;cases so h;exact ay J J
  ·refine cF<|ap<|zo J (bO)<|al<|ai ?_;cases so h;exact ay J J
 ·obtain⟨hx,h⟩:=h
  refine aw<|ap<|zo J (dC J J)<|al<|ae<|bl (ht J) (cw hx)<|cF<|ae<|au<|ap<|aB J<|zo J (gw lG aG J J J (ci hx))<|zo J (bn aG J J)<|aV (r:=ac) (x:=eS) aG (fun _=>aZ _) J fun b=>ba J<|av aG J am J (ht J) (ht J)<|aS 8 J<|al<|ae ?_;refine ap<|aB J<|aB J<|zo J (eH lG J)<|zo J (dU (ht J) (ht J))<|al<|bX h J (fun h=>?_) (fun h=>?_)
  ·refine ap<|zo J (bO)<|al<|ai ?_;refine aa (aq (aa (aa (aq (aa ?_)))));cases so h;exact ay J J
  ·refine cF<|ap<|aB J<|aB J<|bp h fun e1 q_e1 h=>zo J (gw lG aG J J J q_e1)<|zo J (bn aG J J)<|aV (r:=ac) (x:=eS) aG (fun _=>aZ _) J fun b1=>av aG J am J (ht J) (ht J)<|aS 9 J<|al<|ap<|aB J<|zo J (bn aG J J)<|zo J (bn aG J J)<|bp h fun r q_r h=>zo J (dz (args:=lC) (res:=HV) (f:=(fun(x:M×M)=>cmp x.1 x.2)) (x:=((e,e1):M×M)) (ht J) q_r ⟨(ht J),(ht J),aP⟩)<|ba J<|al ?_;refine ap<|aB J<|zo J (pt J)<|al<|bX h J (fun h=>?_) (fun h=>?_)
   ·refine ap<|aB J<|ba J<|al<|ai ?_;refine aq (aa (aa (aq (aa ?_))));cases so h;exact ay J J
   ·refine bi<|aj<|ak<|an<|zo rfl (iq (bW hx hN) rfl)<|aB rfl<|aL ?_;exact aT (aI (ih (i+1) ⟨bV hx,h⟩) (bh J))

theorem Ez(p:Int){R:Bool}(h:mi p=some R):aN aJ 311 [tD Ai p] (er R):=by
 refine aN.of Tryz.func311 J J J fun w0 S0=>ap<|zo J (ef)<|al<|ap<|aB J<|aB J<|zo J (dc (ht J) (ht J))<|ba J<|al<|ai ?_;cases so h;exact ay J J

theorem Jt(p:Int)(y:Int){R:Int}(h:ow p y=some R):aN aJ 244 [tD Ai p,tD Ai y] (bu R):=by
 refine aN.of Tryz.func244 J J J fun w0 S0=>ap<|zo J (bO)<|al<|ap<|aB J<|bp h fun r q_r h=>zo J (ax KM (Ez _ q_r) ⟨(ht J),aP⟩)<|ba J<|al<|ap<|aB J<|bp h fun r1 q_r1 h=>zo J (ax KM (Ez _ q_r1) ⟨(ht J),aP⟩)<|ba J<|al<|ae<|ae ?_;refine an<|aB J<|al<|bX h J (fun h=>?_) (fun h=>?_)
 ·refine ae<|ap<|aB J<|al<|bX h J (fun h=>?_) (fun h=>?_)
  ·refine ap<|zo J (bO)<|al<|ai ?_;refine aa (aa ?_);cases so h;exact ay J J
  ·refine cF<|ap<|zo J (bO)<|al<|ai<|aa ?_;cases so h;exact ay J J
 ·refine cF<|ae<|ap<|aB J<|al<|bX h J (fun h=>?_) (fun h=>?_)
  ·refine ap<|zo J (bO)<|al<|ai<|aa ?_;cases so h;exact ay J J
  ·refine cF<|ae<|ap<|aB J<|aB J<|zo J (dC J J)<|al<|bX h J (fun h=>?_) (fun h=>?_)
   ·refine ap<|zo J (bO)<|al<|ai<|aa ?_;cases so h;exact ay J J
   ·refine cF<|ae<|ap<|aB J<|aB J<|zo J (eb (ht J) (ht J))<|al<|bX h J (fun h=>?_) (fun h=>?_)
    ·refine ap<|zo J (bO)<|al<|ai<|aa ?_;cases so h;exact ay J J
    ·refine cF<|ap<|zo J (bO)<|al<|ai ?_;cases so h;exact ay J J

theorem Ey(p:eA){R:Bool}(h:mj p=some R):aN aJ 312 [tD rS p] (er R):=by
 refine aN.of Tryz.func312 J J J fun w0 S0=>ap<|zo J (ef)<|al<|ap<|aB J<|aB J<|zo J (El (ht J) (ht J))<|ba J<|al<|ai ?_;cases so h;exact ay J J

theorem Js(p:eA)(y:eA){R:Int}(h:ox p y=some R):aN aJ 245 [tD rS p,tD rS y] (bu R):=by
 refine aN.of Tryz.func245 J J J fun w0 S0=>ap<|zo J (bO)<|al<|ap<|aB J<|bp h fun r q_r h=>zo J (ax KL (Ey _ q_r) ⟨(ht J),aP⟩)<|ba J<|al<|ap<|aB J<|bp h fun r1 q_r1 h=>zo J (ax KL (Ey _ q_r1) ⟨(ht J),aP⟩)<|ba J<|al<|ae<|ae ?_;refine an<|aB J<|al<|bX h J (fun h=>?_) (fun h=>?_)
 ·refine ae<|ap<|aB J<|al<|bX h J (fun h=>?_) (fun h=>?_)
  ·refine ap<|zo J (bO)<|al<|ai ?_;refine aa (aa ?_);cases so h;exact ay J J
  ·refine cF<|ap<|zo J (bO)<|al<|ai<|aa ?_;cases so h;exact ay J J
 ·refine cF<|ae<|ap<|aB J<|al<|bX h J (fun h=>?_) (fun h=>?_)
  ·refine ap<|zo J (bO)<|al<|ai<|aa ?_;cases so h;exact ay J J
  ·refine cF<|ae<|ap<|aB J<|aB J<|zo J (H9 (ht J) (ht J))<|al<|bX h J (fun h=>?_) (fun h=>?_)
   ·refine ap<|zo J (bO)<|al<|ai<|aa ?_;cases so h;exact ay J J
   ·refine cF<|ae<|ap<|aB J<|aB J<|zo J (Ib (ht J) (ht J))<|al<|bX h J (fun h=>?_) (fun h=>?_)
    ·refine ap<|zo J (bO)<|al<|ai<|aa ?_;cases so h;exact ay J J
    ·refine cF<|ap<|zo J (bO)<|al<|ai ?_;cases so h;exact ay J J

theorem JU(a1:M)(b:M){R:Int}(h:xG a1 b=some R):aN aJ 161 [tD ac a1,tD ac b] (bu R):=by
 refine aN.of Tryz.func161 J J J fun w0 S0=>ap<|zo J (ff J)<|zo J (ff J)<|zo J (bO)<|al<|ae<|bp h fun r q_r h=>bp h fun r1 q_r1 h=>bp h fun r2 q_r2 h=>bp h fun r3 q_r3 h=>bp h fun r4 q_r4 h=>?_
 refine bZ (ts:=[_,_,_,_,_,_,_,_,_,_,_,_,_,_,_,_,_,_,_,_,_,_,_]) mixed J J
  ⟨dp 2 J J J (bS em bU J J),
  ⟨bH 5 0 J J J (bn bP J J),
  ⟨dp 3 J J J (bS em bU J J),
  ⟨bH 7 2 J J J (bn bP J J),
  ⟨cO 6 1 8 3 J J J J (ax Nt (GR _ _ q_r) ⟨(ht J),(ht J),aP⟩),
  ⟨dp 2 J J J (bS gK dg J J),
  ⟨bH 10 5 J J J (bn wM J J),
  ⟨dp 3 J J J (bS gK dg J J),
  ⟨bH 12 7 J J J (bn wM J J),
  ⟨cO 11 6 13 8 J J J J (ax KX (EI _ _ q_r1) ⟨(ht J),(ht J),aP⟩),
  ⟨dp 2 J J J (bS qn i5 J J),
  ⟨bH 15 10 J J J (bn yK J J),
  ⟨dp 3 J J J (bS qn i5 J J),
  ⟨bH 17 12 J J J (bn yK J J),
  ⟨cO 16 11 18 13 J J J J (ax OL (Jt _ _ q_r2) ⟨(ht J),(ht J),aP⟩),
  ⟨dp 2 J J J (bS oe gI J J),
  ⟨bH 20 15 J J J (bn sQ J J),
  ⟨dp 3 J J J (bS oe gI J J),
  ⟨bH 22 17 J J J (bn sQ J J),
  ⟨cO 21 16 23 18 J J J J (ax OK (Js _ _ q_r3) ⟨(ht J),(ht J),aP⟩),
  ⟨⟨[⟨9,_,some 4⟩,⟨14,_,some 9⟩,⟨19,_,some 14⟩,⟨24,_,some 19⟩],_,J,⟨J,J,J,J,aP⟩,J,J,aA J (aR (r:=bI) (ys:=[r,r1,r2,r3]) (xs:=[.tmp 9,.tmp 14,.tmp 19,.tmp 24]) ed bP J J J J J ⟨(ht J),(ht J),(ht J),(ht J),aP⟩)⟩,
  ⟨bH 25 20 J J J (ax Hz (A3 _ q_r4) ⟨(ht J),aP⟩),
  ⟨bH 26 21 J J J (pe J),
  aP⟩⟩⟩⟩⟩⟩⟩⟩⟩⟩⟩⟩⟩⟩⟩⟩⟩⟩⟩⟩⟩⟩⟩ ?_
 refine ak<|ai ?_;cases so h;exact ay J J

theorem AQ(a1:(List M))(b:(List M)){R:Int}(h:nw a1 b=some R):aN aJ 95 [bK (ac) a1,bK (ac) b] (bu R):=by
 refine aN.of Tryz.func95 J J J fun w0 S0=>ap<|zo J (bO)<|al<|ap<|aB J<|aB J<|bp h fun r q_r h=>zo J (ax Pv (JV _ _ _ q_r) ⟨(ht J),(ht J),(sr Pu fun x y h=>JU _ _ h),aP⟩)<|ba J<|al<|ai ?_;cases so h;exact ay J J

theorem GX(a1:(List M))(b:(List M)){R:Int}(h:rr a1 b=some R):aN aJ 38 [bK (ac) a1,bK (ac) b] (bu R):=by
 refine aN.of Tryz.func38 J J J fun w0 S0=>ap<|zo J (bO)<|al<|ae<|ap<|aB J<|bp h fun r q_r h=>zo J (ax MC (DH _ q_r) ⟨(ht J),aP⟩)<|zo J (cH (ht J))<|aB J<|bp h fun t q_t h=>dv J J (fun hg=>cr J) ?_
 obtain⟨r1,h1t,h0t⟩:=og q_t
 have q_r1g:=fun hb=>(h1t hb).1
 refine dv J J (fun hg=>ax MC (DH _ (q_r1g hg)) ⟨(bk J hg),aP⟩)<|dv J J (fun hg=>cH (bk J hg))<|zo J (dy (ht J) (fun hb=>(bk J (mU hb))) (fun hb=>(h1t hb).2) h0t)<|al<|bX h J (fun h=>?_) (fun h=>?_)
 ·refine ap<|zo J (bO)<|al<|ai<|aa ?_;cases so h;exact ay J J
 ·refine cF<|ap<|aB J<|aB J<|bp h fun r2 q_r2 h=>zo J (ax Km (AQ _ _ q_r2) ⟨(ht J),(ht J),aP⟩)<|ba J<|al<|ai ?_;cases so h;exact ay J J

theorem A4(a1:M)(b:M){R:Int}(h:my a1 b=some R):aN aJ 136 [tD ac a1,tD ac b] (bu R):=by
 refine aN.of Tryz.func136 J J J fun w0 S0=>ap<|zo J (ff J)<|zo J (ff J)<|zo J (bO)<|al<|ap<|zo J (bn aG J J)<|zo J (aR (r:=ac) (ys:=[a1]) (xs:=[.tmp 5]) lG aG J J J J J ⟨(ht J),aP⟩)<|zo J (bn aG J J)<|zo J (aR (r:=ac) (ys:=[b]) (xs:=[.tmp 7]) lG aG J J J J J ⟨(ht J),aP⟩)<|bp h fun r q_r h=>zo J (ax Ny (GX _ _ q_r) ⟨(ht J),(ht J),aP⟩)<|ba J<|al<|ai ?_;cases so h;exact ay J J

theorem J2(p:(List M))(cmp:(M→M→Option Int)){R:M}(h:gB p cmp=some R):aN aJ 137 [bK (ac) p,(cB aJ lC sI (fun(x:M×M)=>cmp x.1 x.2))] (tD ac R):=by
 refine aN.of Tryz.func137 J J J fun w0 S0=>ap<|aV (r:=ac) (x:=eS) aG (fun _=>aZ _) J fun b=>al ?_;refine pS (Z:=fL p cmp=some R) (Of:=[bx ac 46 b eS]) (Gf:=[(0,bK (ac) p),(1,(cB aJ lC sI (fun(x:M×M)=>cmp x.1 x.2))),(4,tV (aO b 0))]) (fun h=>?_) (fun K=>?_)
 ·skip
  refine ap<|aB J<|bp h fun e q_e h=>zo J (bf ns aG J (ht J) hI q_e)<|zo J (bn aG J J)<|aV (r:=ac) (x:=eS) aG (fun _=>aZ _) J fun b1=>av aG J am J (ht J) (ht J)<|al<|ae<|ap<|zo J (bO)<|al<|au<|aU (k:=0) J fun hN=>bo<|fA ?_;refine aI (jk (Z:=fun ls i m=>(p.drop i=ls)∧dj cmp ls m=some R) (Of:=fun _ i m=>[bx ac 46 b eS,bx ac 46 b1 m]) (Gf:=fun _ i m=>[(0,bK (ac) p),(1,(cB aJ lC sI (fun(x:M×M)=>cmp x.1 x.2))),(4,tV (aO b 0)),(5,tV (aO b1 0)),(6,bu (i:Int))]) (fun i m h=>?_) (fun e1 tl ih i m h=>?_) (p.drop (1)) 1 e ⟨J,h⟩) (bh J)
  ·obtain⟨hx,h⟩:=h
   refine aw<|ae<|ap<|aB J<|aB J<|zo J (eH ns J)<|zo J (dC J J)<|al<|bm (ht J) (cx hx)<|be ?_;refine af (af (aE ?_));refine ak<|ap<|zo rfl (bL aG rfl rfl bG (.tail _ (.head _)) (ht rfl))<|av aG rfl am rfl (ht rfl) (ht rfl)<|aS 4 rfl<|al<|ai<|aY ?_;cases so h;exact fq J aG J J J
  ·obtain⟨hx,h⟩:=h
   refine aw<|ae<|ap<|aB J<|aB J<|zo J (eH ns J)<|zo J (dC J J)<|al<|bl (ht J) (cw hx)<|cF<|ae<|au<|ae<|bp h fun r q_r h=>?_
   refine bZ (ts:=[_,_,_,_,_,_,_,_]) mixed J J
    ⟨dp 1 J J J (cr J),
    ⟨dp 0 J J J (cr J),
    ⟨dp 6 J J J (cr J),
    ⟨cO 21 1 22 2 J J J J (gw ns aG J J J (ci hx)),
    ⟨bH 23 3 J J J (bn aG J J),
    ⟨dp 5 J J J (bL aG J J bG (.tail _ (.head _)) (ht J)),
    ⟨y9 20 0 24 4 25 5 J J J J J (dz (args:=lC) (res:=HV) (f:=(fun(x:M×M)=>cmp x.1 x.2)) (x:=((e1,m):M×M)) (ht J) q_r ⟨(ht J),(ht J),aP⟩),
    ⟨bH 26 6 J J J (eb (ht J) hI),
    aP⟩⟩⟩⟩⟩⟩⟩⟩ ?_
   refine ak<|bX h rfl (fun h=>?_) (fun h=>?_)
   ·refine an<|aB J<|aB J<|zo J (gw ns aG J J J (ci hx))<|zo J (bn aG J J)<|bz<|av aG J am J (ht J) (ht J)<|aL<|aj<|ak<|an<|aB rfl<|zo rfl (iq (bW hx hN) rfl)<|ba rfl<|aL<|bt ?_;exact aT (aI (ih (i+1) e1 ⟨bV hx,h⟩) (bh J))
   ·refine bi<|aj<|ak<|an<|aB rfl<|zo rfl (iq (bW hx hN) rfl)<|ba rfl<|aL ?_;exact aT (aI (ih (i+1) m ⟨bV hx,h⟩) (bh J))
 ·skip
  refine ap<|aB J<|zo J (eH ns J)<|zo J (dO (ht J) hI)<|al<|bX h J (fun h=>?_) (fun h=>?_)
  ·refine an ?_;exact(nn h).elim
  ·refine bi ?_;exact cn (K h) (bh J)

theorem L5(a1:kz)(rows:(List (List M))){R:M×Int}(h:pN a1 rows=some R):aN aJ 76 [tD ej a1,bK (cE) rows] (tT [tD ac R.1,bu R.2]):=by
 refine aN.of Tryz.func76 J J J fun w0 S0=>ap<|zo J (ff J)<|aV (r:=ac) (x:=eS) aG (fun _=>aZ _) J fun b=>zo J (bO)<|al<|ae<|ap<|zo J (bS tE oa J J)<|zo J (bn bP J J)<|zo J (io J)<|al<|bX h J (fun h=>?_) (fun h=>?_)
 ·refine ap<|aB J<|zo J (eH ge J)<|bp h fun r q_r h=>zo J (ax Cl (uJ _ q_r) ⟨(ht J),aP⟩)<|av aG J am J (ht J) (ht J)<|zo J (bO)<|al<|ai<|aa<|bg 4 J ?_;cases so h;exact bF J J ⟨bq aG J J J,aW J,aP⟩
 ·refine cF<|ap<|zo J (bn qZ J J)<|aB J<|bp h fun r1 q_r1 h=>zo J (ax PG (J7 _ _ q_r1) ⟨(ht J),(ht J),aP⟩)<|aB J<|zo J (eT J J)<|zo J (eT J J)<|ba J<|ba J<|al<|ae<|ap<|aB J<|zo J (io J)<|al<|bX h J (fun h=>?_) (fun h=>?_)
  ·refine ap<|zo J (bM (y:=eS) aG lq aZ (J))<|aB J<|av aG J am J (ht J) (ht J)<|ba J<|al<|ai<|aa<|bg 4 J ?_;cases so h;exact bF J J ⟨bq aG J J J,aW J,aP⟩
  ·refine cF<|ap<|zo J (aD (show aH _ _ _ ((cB aJ uc ib (fun(x:M)=>kR x)))from(sr PF fun x y h=>J6 _ h)))<|al<|ae<|au<|ap<|zo J (bS tE oa J J)<|zo J (bn bP J J)<|zo J (io J)<|aB J<|bp h fun t q_t h=>cd J J (fun hg=>cr J)<|cd J J (fun hg=>cr J) ?_
   obtain⟨r2,h1t,h0t⟩:=og q_t
   have q_r2g:=fun hb=>(h1t hb).1
   refine cd J J (fun hg=>ax PE (J5 _ _ (q_r2g hg)) ⟨(bk J hg),(bk J hg),aP⟩)<|zo J (cJ (ht J) (fun hb=>(bk J hb)) (fun hb=>(h1t hb).2) h0t)<|ba J<|al<|bX h J (fun h=>?_) (fun h=>?_)
   ·refine ap<|zo J (bM (y:=eS) aG lq aZ (J))<|av aG J am J (ht J) (ht J)<|zo J (bO)<|al<|ai ?_;refine aq (aa ?_);refine bg 4 J ?_;cases so h;exact bF J J ⟨bq aG J J J,aW J,aP⟩
   ·refine ap<|aB J<|zo J (pt J)<|ba J<|al<|bX h J (fun h=>?_) (fun h=>?_)
    ·refine ap<|zo J (bM (y:=eS) aG lq aZ (J))<|aB J<|av aG J am J (ht J) (ht J)<|ba J<|al<|ai ?_;refine aq (aa ?_);refine bg 4 J ?_;cases so h;exact bF J J ⟨bq aG J J J,aW J,aP⟩
    ·refine ap<|zo J (bS tE oa J J)<|zo J (bn bP J J)<|zo J (io J)<|ba J<|al<|bX h J (fun h=>?_) (fun h=>?_)
     ·refine ap<|aB J<|zo J (eH ns J)<|bp h fun r3 q_r3 h=>zo J (ax Cl (uJ _ q_r3) ⟨(ht J),aP⟩)<|av aG J am J (ht J) (ht J)<|zo J (bO)<|al<|ai ?_;refine aq (aa ?_);refine bg 4 J ?_;cases so h;exact bF J J ⟨bq aG J J J,aW J,aP⟩
     ·refine ap<|zo J (bS tE oa J J)<|zo J (bn bP J J)<|zo J (io J)<|ba J<|al<|bX h J (fun h=>?_) (fun h=>?_)
      ·refine ap<|aB J<|bp h fun r4 q_r4 h=>zo J (ax PD (J4 _ q_r4) ⟨(ht J),aP⟩)<|zo J (eT J J)<|zo J (eT J J)<|av aG J am J (ht J) (ht J)<|ba J<|al<|ai ?_;refine aq (aa ?_);refine bg 4 J ?_;cases so h;exact bF J J ⟨bq aG J J J,aW J,aP⟩
      ·refine ap<|aB J<|zo J (eH ns J)<|zo J (io J)<|ba J<|al<|bX h J (fun h=>?_) (fun h=>?_)
       ·refine ap<|zo J (bM (y:=eS) aG lq aZ (J))<|av aG J am J (ht J) (ht J)<|zo J (bO)<|al<|ai ?_;refine aq (aa ?_);refine bg 4 J ?_;cases so h;exact bF J J ⟨bq aG J J J,aW J,aP⟩
       ·refine ap<|zo J (bS tE oa J J)<|zo J (bn bP J J)<|zo J (io J)<|ba J<|al<|bX h J (fun h=>?_) (fun h=>?_)
        ·refine ap<|aB J<|bp h fun r5 q_r5 h=>zo J (ax PC (J3 _ _ q_r5) ⟨(ht J),(sr HB fun x y h=>A4 _ _ h),aP⟩)<|av aG J am J (ht J) (ht J)<|zo J (bO)<|al<|ai ?_;refine aq (aa ?_);refine bg 4 J ?_;cases so h;exact bF J J ⟨bq aG J J J,aW J,aP⟩
        ·refine bi<|aj<|ak<|ap<|aB rfl<|bp h fun r6 q_r6 h=>zo J (ax PB (J2 _ _ q_r6) ⟨(ht J),(sr HB fun x y h=>A4 _ _ h),aP⟩)<|av aG J am J (ht J) (ht J)<|zo J (bO)<|al<|ai<|bg 4 J ?_;cases so h;exact bF J J ⟨bq aG J J J,aW J,aP⟩

theorem DG(l:(List (List (List M)))){R:Int}(h:sf l=some R):aN aJ 97 [bK (da) l] (bu R):=by
 refine aN.of Tryz.func97 J J J fun w0 S0=>ap<|zo J (bO)<|al<|ap<|zo J (bO)<|al<|ae<|ap<|aB J<|zo J (eH jH J)<|zo J (br hI)<|al<|au<|aU (k:=8) J fun hN=>bo ?_;refine aI (jk (Z:=fun ls i n=>(l.drop i=ls)∧ni ls n=some R) (Of:=fun _ i n=>[]) (Gf:=fun _ i n=>[(3,bu n),(8,bK (da) l),(9,fC l),(10,bu (i:Int))]) (fun i n h=>?_) (fun e tl ih i n h=>?_) l 0 (0:Int) ⟨J,h⟩) (bh J)
 ·obtain⟨hx,h⟩:=h
  refine aw<|ap<|zo J (dC J J)<|al<|ae<|bm (ht J) (cx hx)<|be ?_;refine af (af (aE ?_));refine ak<|ae<|ap<|aB rfl<|zo rfl (eb (ht rfl) hI)<|al<|bX h rfl (fun h=>?_) (fun h=>?_)
  ·refine ap<|zo J (bO)<|al<|ai<|aa ?_;cases so h;exact ay J J
  ·refine cF<|ap<|zo J (bO)<|al<|ai ?_;cases so h;exact ay J J
 ·obtain⟨hx,h⟩:=h
  refine aw<|ap<|zo J (dC J J)<|al<|ae<|bl (ht J) (cw hx)<|cF<|ae<|au<|ap<|zo J (gw jH eu J J J (ci hx))<|zo J (bn eu J J)<|ba J<|al<|ae<|ap<|aB J<|zo J (eH ge J) ?_;refine zo J (br hI)<|al<|au<|aU (k:=14) J fun hN1=>bo ?_;refine aI (cN (Z:=fun ls1 i1=>(e.drop i1=ls1)∧p8 (ni tl) e n ls1=some R) (Of:=fun _ i1=>[]) (Gf:=fun _ i1=>[(3,bu n),(5,bK (cE) e),(8,bK (da) l),(9,fC l),(10,bu (i:Int)),(14,bK (cE) e),(15,fC e),(16,bu (i1:Int))]) (fun i1 h=>?_) (fun e1 tl1 ih1 i1 h=>?_) e 0 ⟨J,h⟩) (bh J)
  ·obtain⟨hx1,h⟩:=h
   refine aw<|ap<|zo J (dC J J)<|al<|ae<|bm (ht J) (cx hx1)<|be ?_;refine af (af (aE ?_));refine ak<|an<|aB rfl<|aB rfl<|zo rfl (eH ge rfl)<|zo rfl (wP (ht rfl) (ht rfl))<|ba rfl<|aL<|aj<|ak<|an<|zo rfl (iq (bW hx hN) rfl)<|aB rfl<|aL ?_;exact aT (aI (ih (i+1) (max n (e.length:Int)) ⟨bV hx,h⟩) (bh J))
  ·obtain⟨hx1,h⟩:=h
   refine aw<|ap<|zo J (dC J J)<|al<|ae<|bl (ht J) (cw hx1)<|cF<|ae<|au<|ap<|zo J (gw ge dd J J J (ci hx1))<|zo J (bn dd J J)<|ba J<|al<|ap<|aB J<|bp h fun r q_r h=>zo J (ax MC (DH _ q_r) ⟨(ht J),aP⟩) ?_;refine zo J (cH (ht J))<|al<|bX h J (fun h=>?_) (fun h=>?_)
   ·refine ap<|zo J (bO)<|al<|ai ?_;refine aq (aa (aa (aq (aa (aq (aa (aa (aq (aa ?_)))))))));cases so h;exact ay J J
   ·refine bi<|aj<|ak<|an<|zo rfl (iq (bW hx1 hN1) rfl)<|aB rfl<|aL ?_;exact aT (aI (ih1 (i1+1) ⟨bV hx1,h⟩) (bh J))

theorem Jk(c:Int){R:Bool}(h:rq c=some R):aN aJ 257 [bu c] (er R):=by
 refine aN.of Tryz.func257 J J J fun w0 S0=>ap<|zo J (ef)<|al<|ap<|aB J<|zo J (dO (ht J) hI)<|ba J<|al<|ai ?_;cases so h;exact ay J J

theorem IV(r:(List M))(c:Int){R:Bool}(h:vk r c=some R):aN aJ 322 [bu c,bv cE r] (er R):=by
 refine aN.of Tryz.func322 J J J fun w0 S0=>ap<|zo J (ef)<|al<|ap<|aB J<|zo J (dO (ht J) hI)<|aB J<|dv J J (fun hg=>cr J)<|dv J J (fun hg=>bn dd J J)<|dv J J (fun hg=>cD lG (bk J hg))<|dv J J (fun hg=>dU (bk J hg) (bk J hg))<|zo J (qY J J)<|ba J<|al<|ai ?_;cases so h;exact ay J J

theorem Jj(r:(List M))(columns:(List Int)){R:Bool}(h:Ef r columns=some R):aN aJ 259 [bK (ac) r,iA columns] (er R):=by
 refine aN.of Tryz.func259 J J J fun w0 S0=>ap<|zo J (ff J)<|zo J (ef)<|al<|ap<|zo J ((show bB _ _ _ _ ((cB aJ Bw ib (fun(x:Int)=>(vk r) x)))from eB (cts:=[bv cE r]) (caps:=[.tmp 2]) N2 ⟨(ht J),aP⟩ (fun x y h=>IV _ _ h)))<|ba J<|al<|ap<|aB J<|zo J (eH ed J)<|zo J (gH (ht J) hI)<|aB J<|bp h fun t q_t h=>cd J J (fun hg=>cr J)<|cd J J (fun hg=>cr J) ?_
 obtain⟨r1,h1t,h0t⟩:=og q_t
 have q_r1g:=fun hb=>(h1t hb).1
 refine cd J J (fun hg=>ax ES (wW _ _ (q_r1g hg)) ⟨(bk J hg),(bk J hg),aP⟩)<|cd J J (fun hg=>cH (bk J hg))<|zo J (cJ (ht J) (fun hb=>(bk J hb)) (fun hb=>(h1t hb).2) h0t)<|ba J<|al<|ai ?_;cases so h;exact ay J J

theorem JL(l:(List (List M)))(columns:(List Int)){R:Int}(h:zh l columns=some R):aN aJ 173 [bK (cE) l,iA columns] (bu R):=by
 refine aN.of Tryz.func173 J J J fun w0 S0=>ap<|zo J (bO)<|al<|ae<|ap<|aB J<|zo J (aR (r:=da) (ys:=[l]) (xs:=[.tmp 9]) jH eu J J J J J ⟨(ht J),aP⟩)<|bp h fun r q_r h=>zo J (ax MB (DG _ q_r) ⟨(ht J),aP⟩)<|ba J<|al<|ap<|aB J<|zo J (pt J)<|al<|bX h J (fun h=>?_) (fun h=>?_)
 ·refine ap<|aB J<|ba J<|al<|ai<|aa ?_;cases so h;exact ay J J
 ·refine cF<|ap<|zo J (aD (show aH _ _ _ ((cB aJ Bw ib (fun(x:Int)=>rq x)))from(sr OA fun x y h=>Jk _ h)))<|al<|ae<|ap<|aB J<|zo J (eH ed J)<|zo J (eb (ht J) hI)<|aB J<|bp h fun t q_t h=>dv J J (fun hg=>cr J)<|dv J J (fun hg=>cr J) ?_
  obtain⟨r1,h1t,h0t⟩:=og q_t
  have q_r1g:=fun hb=>(h1t hb).1
  refine dv J J (fun hg=>ax ES (wW _ _ (q_r1g hg)) ⟨(bk J hg),(bk J hg),aP⟩)<|zo J (dy (ht J) (fun hb=>(bk J (mU hb))) (fun hb=>(h1t hb).2) h0t)<|al<|bX h J (fun h=>?_) (fun h=>?_)
  ·refine ap<|zo J (bO)<|al<|ai<|aa ?_;cases so h;exact ay J J
  ·refine cF<|ae<|ap<|aB J<|zo J (eH ge J)<|zo J (br hI)<|al<|au<|aU (k:=23) J fun hN=>bo ?_;refine aI (cN (Z:=fun ls i=>(l.drop i=ls)∧p9 columns ls=some R) (Of:=fun _ i=>[]) (Gf:=fun _ i=>[(1,iA columns),(23,bK (cE) l),(24,fC l),(25,bu (i:Int))]) (fun i h=>?_) (fun e tl ih i h=>?_) l 0 ⟨J,h⟩) (bh J)
   ·obtain⟨hx,h⟩:=h
    refine aw<|ap<|zo J (dC J J)<|al<|ae<|bm (ht J) (cx hx)<|be ?_;refine af (af (aE ?_));refine ak<|ap<|zo rfl (bO)<|al<|ai ?_;cases so h;exact ay J J
   ·obtain⟨hx,h⟩:=h
    refine aw<|ap<|zo J (dC J J)<|al<|ae<|bl (ht J) (cw hx)<|cF<|ae<|au<|ap<|zo J (gw ge dd J J J (ci hx))<|zo J (bn dd J J)<|ba J<|al<|ap<|aB J<|aB J<|bp h fun r2 q_r2 h=>?_;refine zo J (ax Oz (Jj _ _ q_r2) ⟨(ht J),(ht J),aP⟩)<|zo J (cH (ht J))<|al<|bX h J (fun h=>?_) (fun h=>?_)
    ·refine ap<|zo J (bO)<|al<|ai ?_;refine aq (aa (aa (aq (aa ?_))));cases so h;exact ay J J
    ·refine bi<|aj<|ak<|an<|zo rfl (iq (bW hx hN) rfl)<|aB rfl<|aL ?_;exact aT (aI (ih (i+1) ⟨bV hx,h⟩) (bh J))

theorem yj(s:(List M)){R:(List M)}(h:dw s=some R):d4 aJ 106 [bK (ac) s] false ac 46 R:=by
 refine d4.of Tryz.func106 J J J fun w0 S0=>ap<|bA false ac 46<|zo J (aD mZ)<|al<|ae<|ap<|aB J<|oz lG (ht J) J fun isnil hisnil=>al<|kE (ht J) (fun hc=>?_) (fun hc=>?_)
 ·have hx:=hisnil hc
  have h:some Aj=some R:=by simpa [dw,k5,hx] using h
  refine ap<|bA false ac 46<|zo J (aD mZ)<|al<|ai<|aa ?_;cases so h;exact d7 J J
 ·refine cF<|ap<|fJ (r:=ac) (ys:=Aj) (xs:=[]) lG aG J J J J J trivial J fun l c=>aB J<|bp h fun x q_x h=>cg aG J J J J lG J J (ht J) (ht J) q_x fun l1 c1=>ba J<|al<|ai ?_;cases so h;exact d7 J J
end Go.Proofs.YtfhhakidodmdfaaGreatDoor

