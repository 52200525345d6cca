/- cU of this claim: P9. -/
import Derived.Test.YtfhhakidodmdfaaGreatDoorJfT
import Derived.Test.YtfhhakidodmdfaaGreatDoorJfP8
set_option linter.all false
namespace Go.Proofs.YtfhhakidodmdfaaGreatDoor
open Go
set_option maxRecDepth 100000

theorem Wf(s1:(List ac))(s2:(List ac))(cmp:(ac→ac→Option Int)){R:Int}(h:cu s1 s2 cmp=some R):aW aQ 160 [bW (af) s1,bW (af) s2,(dR aQ qK xT (fun(x:ac×ac)=>cmp x.1 x.2))] (bN R):=by
 refine aW.of Tryz.func160 J J J fun w0 S0=>aw<|zo J (cy)<|av<|ah<|aw<|aG J<|zo J (i7 jf J)<|zo J (bE hI)<|av<|ay<|ba (k:=11) J fun hN=>bL ?_;refine aR (d7 (Z:=fun ls i=>(s1.drop i=ls)∧bK s1 s2 cmp ls i=some R) (Of:=fun _ i=>[]) (Gf:=fun _ i=>[(0,bW (af) s1),(1,bW (af) s2),(2,(dR aQ qK xT (fun(x:ac×ac)=>cmp x.1 x.2))),(11,bW (af) s1),(12,jr s1),(13,bN (i:Int))]) (fun i h=>?_) (fun e tl ih i h=>?_) s1 0 ⟨J,h⟩) (bu J)
 ·obtain⟨hx,h⟩:=h
  refine aA<|aw<|zo J (fF J J)<|av<|ah<|bz (ht J) (dm hx)<|bv ?_;refine ai (ai (aN ?_));refine ax<|ah<|aw<|aG rfl<|zo rfl (i7 jf rfl)<|aG rfl<|zo rfl (i7 jf rfl)<|zo rfl (fF rfl rfl)<|av<|c0 h rfl (fun h=>?_) (fun h=>?_)
  ·refine aw<|zo J (cy)<|av<|am<|ae ?_;cases so h;exact aH J J
  ·refine dP<|aw<|zo J (cy)<|av<|am ?_;cases so h;exact aH J J
 ·obtain⟨hx,h⟩:=h
  refine aA<|aw<|zo J (fF J J)<|av<|ah<|bw (ht J) (dg hx)<|dP<|ah<|ay<|aw<|aG J<|zo J (mz jf aI J J J (cT hx))<|zo J (bC aI J J)<|aX (r:=af) (x:=iy) aI (fun _=>bk _) J fun b=>bq J<|aq aI J an J (ht J) (ht J)<|aV 8 J<|av<|ah ?_;refine aw<|aG J<|aG J<|zo J (i7 jf J)<|zo J (ir (ht J) (ht J))<|av<|c0 h J (fun h=>?_) (fun h=>?_)
  ·refine aw<|zo J (cy)<|av<|am ?_;refine ae (aD (ae (ae (aD (ae ?_)))));cases so h;exact aH J J
  ·refine dP<|aw<|aG J<|aG J<|bB h fun e1 q_e1 h=>zo J (mz jf aI J J J q_e1)<|zo J (bC aI J J)<|aX (r:=af) (x:=iy) aI (fun _=>bk _) J fun b1=>aq aI J an J (ht J) (ht J)<|aV 9 J<|av<|aw<|aG J<|zo J (bC aI J J)<|zo J (bC aI J J)<|bB h fun r q_r h=>zo J (eU (args:=qK) (res:=Gu) (f:=(fun(x:ac×ac)=>cmp x.1 x.2)) (x:=((e,e1):ac×ac)) (ht J) q_r ⟨(ht J),(ht J),aS⟩)<|bq J<|av ?_;refine aw<|aG J<|zo J (s8 J)<|av<|c0 h J (fun h=>?_) (fun h=>?_)
   ·refine aw<|aG J<|bq J<|av<|am ?_;refine aD (ae (ae (aD (ae ?_))));cases so h;exact aH J J
   ·refine bA<|ap<|ax<|au<|zo rfl (lT (cx hx hN) rfl)<|aG rfl<|aP ?_;exact bg (aR (ih (i+1) ⟨cw hx,h⟩) (bu J))

theorem Pk(p:Int){R:Bool}(h:oY p=some R):aW aQ 311 [tD Ie p] (iO R):=by
 refine aW.of Tryz.func311 J J J fun w0 S0=>aw<|zo J (jy)<|av<|aw<|aG J<|aG J<|zo J (ft (ht J) (ht J))<|bq J<|av<|am ?_;cases so h;exact aH J J

theorem VU(p:Int)(y:Int){R:Int}(h:nh p y=some R):aW aQ 244 [tD Ie p,tD Ie y] (bN R):=by
 refine aW.of Tryz.func244 J J J fun w0 S0=>aw<|zo J (cy)<|av<|aw<|aG J<|bB h fun r q_r h=>zo J (aB XG (Pk _ q_r) ⟨(ht J),aS⟩)<|bq J<|av<|aw<|aG J<|bB h fun r1 q_r1 h=>zo J (aB XG (Pk _ q_r1) ⟨(ht J),aS⟩)<|bq J<|av<|ah<|ah ?_;refine au<|aG J<|av<|c0 h J (fun h=>?_) (fun h=>?_)
 ·refine ah<|aw<|aG J<|av<|c0 h J (fun h=>?_) (fun h=>?_)
  ·refine aw<|zo J (cy)<|av<|am ?_;refine ae (ae ?_);cases so h;exact aH J J
  ·refine dP<|aw<|zo J (cy)<|av<|am<|ae ?_;cases so h;exact aH J J
 ·refine dP<|ah<|aw<|aG J<|av<|c0 h J (fun h=>?_) (fun h=>?_)
  ·refine aw<|zo J (cy)<|av<|am<|ae ?_;cases so h;exact aH J J
  ·refine dP<|ah<|aw<|aG J<|aG J<|zo J (fF J J)<|av<|c0 h J (fun h=>?_) (fun h=>?_)
   ·refine aw<|zo J (cy)<|av<|am<|ae ?_;cases so h;exact aH J J
   ·refine dP<|ah<|aw<|aG J<|aG J<|zo J (fU (ht J) (ht J))<|av<|c0 h J (fun h=>?_) (fun h=>?_)
    ·refine aw<|zo J (cy)<|av<|am<|ae ?_;cases so h;exact aH J J
    ·refine dP<|aw<|zo J (cy)<|av<|am ?_;cases so h;exact aH J J

theorem Pj(p:xC){R:Bool}(h:oZ p=some R):aW aQ 312 [tD rS p] (iO R):=by
 refine aW.of Tryz.func312 J J J fun w0 S0=>aw<|zo J (jy)<|av<|aw<|aG J<|aG J<|zo J (UH (ht J) (ht J))<|bq J<|av<|am ?_;cases so h;exact aH J J

theorem VT(p:xC)(y:xC){R:Int}(h:ni p y=some R):aW aQ 245 [tD rS p,tD rS y] (bN R):=by
 refine aW.of Tryz.func245 J J J fun w0 S0=>aw<|zo J (cy)<|av<|aw<|aG J<|bB h fun r q_r h=>zo J (aB XF (Pj _ q_r) ⟨(ht J),aS⟩)<|bq J<|av<|aw<|aG J<|bB h fun r1 q_r1 h=>zo J (aB XF (Pj _ q_r1) ⟨(ht J),aS⟩)<|bq J<|av<|ah<|ah ?_;refine au<|aG J<|av<|c0 h J (fun h=>?_) (fun h=>?_)
 ·refine ah<|aw<|aG J<|av<|c0 h J (fun h=>?_) (fun h=>?_)
  ·refine aw<|zo J (cy)<|av<|am ?_;refine ae (ae ?_);cases so h;exact aH J J
  ·refine dP<|aw<|zo J (cy)<|av<|am<|ae ?_;cases so h;exact aH J J
 ·refine dP<|ah<|aw<|aG J<|av<|c0 h J (fun h=>?_) (fun h=>?_)
  ·refine aw<|zo J (cy)<|av<|am<|ae ?_;cases so h;exact aH J J
  ·refine dP<|ah<|aw<|aG J<|aG J<|zo J (UI (ht J) (ht J))<|av<|c0 h J (fun h=>?_) (fun h=>?_)
   ·refine aw<|zo J (cy)<|av<|am<|ae ?_;cases so h;exact aH J J
   ·refine dP<|ah<|aw<|aG J<|aG J<|zo J (UK (ht J) (ht J))<|av<|c0 h J (fun h=>?_) (fun h=>?_)
    ·refine aw<|zo J (cy)<|av<|am<|ae ?_;cases so h;exact aH J J
    ·refine dP<|aw<|zo J (cy)<|av<|am ?_;cases so h;exact aH J J

theorem We(a1:ac)(b:ac){R:Int}(h:pD a1 b=some R):aW aQ 161 [tD af a1,tD af b] (bN R):=by
 refine aW.of Tryz.func161 J J J fun w0 S0=>aw<|zo J (js J)<|zo J (js J)<|zo J (cy)<|av<|ah<|bB h fun r q_r h=>bB h fun r1 q_r1 h=>bB h fun r2 q_r2 h=>bB h fun r3 q_r3 h=>bB h fun r4 q_r4 h=>?_
 refine da (ts:=[_,_,_,_,_,_,_,_,_,_,_,_,_,_,_,_,_,_,_,_,_,_,_]) mixed J J
  ⟨eH 2 J J J (c9 iu cS J J),
  ⟨bZ 5 0 J J J (bC cr J J),
  ⟨eH 3 J J J (c9 iu cS J J),
  ⟨bZ 7 2 J J J (bC cr J J),
  ⟨d3 6 1 8 3 J J J J (aB ZD (NV _ _ q_r) ⟨(ht J),(ht J),aS⟩),
  ⟨eH 2 J J J (c9 ml fI J J),
  ⟨bZ 10 5 J J J (bC Gx J J),
  ⟨eH 3 J J J (c9 ml fI J J),
  ⟨bZ 12 7 J J J (bC Gx J J),
  ⟨d3 11 6 13 8 J J J J (aB XP (Pt _ _ q_r1) ⟨(ht J),(ht J),aS⟩),
  ⟨eH 2 J J J (c9 CI rf J J),
  ⟨bZ 15 10 J J J (bC MK J J),
  ⟨eH 3 J J J (c9 CI rf J J),
  ⟨bZ 17 12 J J J (bC MK J J),
  ⟨d3 16 11 18 13 J J J J (aB abM (VU _ _ q_r2) ⟨(ht J),(ht J),aS⟩),
  ⟨eH 2 J J J (c9 yC oA J J),
  ⟨bZ 20 15 J J J (bC Um J J),
  ⟨eH 3 J J J (c9 yC oA J J),
  ⟨bZ 22 17 J J J (bC Um J J),
  ⟨d3 21 16 23 18 J J J J (aB abL (VT _ _ q_r3) ⟨(ht J),(ht J),aS⟩),
  ⟨⟨[⟨9,_,some 4⟩,⟨14,_,some 9⟩,⟨19,_,some 14⟩,⟨24,_,some 19⟩],_,J,⟨J,J,J,J,aS⟩,J,J,aC J (aU (r:=ca) (ys:=[r,r1,r2,r3]) (xs:=[.tmp 9,.tmp 14,.tmp 19,.tmp 24]) hX cr J J J J J ⟨(ht J),(ht J),(ht J),(ht J),aS⟩)⟩,
  ⟨bZ 25 20 J J J (aB Ts (Jq _ q_r4) ⟨(ht J),aS⟩),
  ⟨bZ 26 21 J J J (vx J),
  aS⟩⟩⟩⟩⟩⟩⟩⟩⟩⟩⟩⟩⟩⟩⟩⟩⟩⟩⟩⟩⟩⟩⟩ ?_
 refine ax<|am ?_;cases so h;exact aH J J

theorem Je(a1:(List ac))(b:(List ac)){R:Int}(h:pQ a1 b=some R):aW aQ 95 [bW (af) a1,bW (af) b] (bN R):=by
 refine aW.of Tryz.func95 J J J fun w0 S0=>aw<|zo J (cy)<|av<|aw<|aG J<|aG J<|bB h fun r q_r h=>zo J (aB acn (Wf _ _ _ q_r) ⟨(ht J),(ht J),(zJ acm fun x y h=>We _ _ h),aS⟩)<|bq J<|av<|am ?_;cases so h;exact aH J J

theorem NZ(a1:(List ac))(b:(List ac)){R:Int}(h:ou a1 b=some R):aW aQ 38 [bW (af) a1,bW (af) b] (bN R):=by
 refine aW.of Tryz.func38 J J J fun w0 S0=>aw<|zo J (cy)<|av<|ah<|aw<|aG J<|bB h fun r q_r h=>zo J (aB WJ (Jf _ q_r) ⟨(ht J),aS⟩)<|zo J (fj (ht J))<|aG J<|bB h fun t q_t h=>eG J J (fun hg=>de J) ?_
 obtain⟨r1,h1t,h0t⟩:=og q_t
 have q_r1g:=fun hb=>(h1t hb).1
 refine eG J J (fun hg=>aB WJ (Jf _ (q_r1g hg)) ⟨(bG J hg),aS⟩)<|eG J J (fun hg=>fj (bG J hg))<|zo J (gZ (ht J) (fun hb=>(bG J (wK hb))) (fun hb=>(h1t hb).2) h0t)<|av<|c0 h J (fun h=>?_) (fun h=>?_)
 ·refine aw<|zo J (cy)<|av<|am<|ae ?_;cases so h;exact aH J J
 ·refine dP<|aw<|aG J<|aG J<|bB h fun r2 q_r2 h=>zo J (aB WI (Je _ _ q_r2) ⟨(ht J),(ht J),aS⟩)<|bq J<|av<|am ?_;cases so h;exact aH J J

theorem Jr(a1:ac)(b:ac){R:Int}(h:iB a1 b=some R):aW aQ 136 [tD af a1,tD af b] (bN R):=by
 refine aW.of Tryz.func136 J J J fun w0 S0=>aw<|zo J (js J)<|zo J (js J)<|zo J (cy)<|av<|aw<|zo J (bC aI J J)<|zo J (aU (r:=af) (ys:=[a1]) (xs:=[.tmp 5]) jf aI J J J J J ⟨(ht J),aS⟩)<|zo J (bC aI J J)<|zo J (aU (r:=af) (ys:=[b]) (xs:=[.tmp 7]) jf aI J J J J J ⟨(ht J),aS⟩)<|bB h fun r q_r h=>zo J (aB ZH (NZ _ _ q_r) ⟨(ht J),(ht J),aS⟩)<|bq J<|av<|am ?_;cases so h;exact aH J J

theorem Wm(p:(List ac))(cmp:(ac→ac→Option Int)){R:ac}(h:eY p cmp=some R):aW aQ 137 [bW (af) p,(dR aQ qK xT (fun(x:ac×ac)=>cmp x.1 x.2))] (tD af R):=by
 refine aW.of Tryz.func137 J J J fun w0 S0=>aw<|aX (r:=af) (x:=iy) aI (fun _=>bk _) J fun b=>av ?_;refine tz (Z:=gr p cmp=some R) (Of:=[bx af 46 b iy]) (Gf:=[(0,bW (af) p),(1,(dR aQ qK xT (fun(x:ac×ac)=>cmp x.1 x.2))),(4,tV (aO b 0))]) (fun h=>?_) (fun K=>?_)
 ·skip
  refine aw<|aG J<|bB h fun e q_e h=>zo J (br kC aI J (ht J) hI q_e)<|zo J (bC aI J J)<|aX (r:=af) (x:=iy) aI (fun _=>bk _) J fun b1=>aq aI J an J (ht J) (ht J)<|av<|ah<|aw<|zo J (cy)<|av<|ay<|ba (k:=0) J fun hN=>bL<|im ?_;refine aR (nE (Z:=fun ls i m=>(p.drop i=ls)∧cI cmp ls m=some R) (Of:=fun _ i m=>[bx af 46 b iy,bx af 46 b1 m]) (Gf:=fun _ i m=>[(0,bW (af) p),(1,(dR aQ qK xT (fun(x:ac×ac)=>cmp x.1 x.2))),(4,tV (aO b 0)),(5,tV (aO b1 0)),(6,bN (i:Int))]) (fun i m h=>?_) (fun e1 tl ih i m h=>?_) (p.drop (1)) 1 e ⟨J,h⟩) (bu J)
  ·obtain⟨hx,h⟩:=h
   refine aA<|ah<|aw<|aG J<|aG J<|zo J (i7 kC J)<|zo J (fF J J)<|av<|bz (ht J) (dm hx)<|bv ?_;refine ai (ai (aN ?_));refine ax<|aw<|zo rfl (ce aI rfl rfl bU (.tail _ (.head _)) (ht rfl))<|aq aI rfl an rfl (ht rfl) (ht rfl)<|aV 4 rfl<|av<|am<|bf ?_;cases so h;exact je J aI J J J
  ·obtain⟨hx,h⟩:=h
   refine aA<|ah<|aw<|aG J<|aG J<|zo J (i7 kC J)<|zo J (fF J J)<|av<|bw (ht J) (dg hx)<|dP<|ah<|ay<|ah<|bB h fun r q_r h=>?_
   refine da (ts:=[_,_,_,_,_,_,_,_]) mixed J J
    ⟨eH 1 J J J (de J),
    ⟨eH 0 J J J (de J),
    ⟨eH 6 J J J (de J),
    ⟨d3 21 1 22 2 J J J J (mz kC aI J J J (cT hx)),
    ⟨bZ 23 3 J J J (bC aI J J),
    ⟨eH 5 J J J (ce aI J J bU (.tail _ (.head _)) (ht J)),
    ⟨De 20 0 24 4 25 5 J J J J J (eU (args:=qK) (res:=Gu) (f:=(fun(x:ac×ac)=>cmp x.1 x.2)) (x:=((e1,m):ac×ac)) (ht J) q_r ⟨(ht J),(ht J),aS⟩),
    ⟨bZ 26 6 J J J (fU (ht J) hI),
    aS⟩⟩⟩⟩⟩⟩⟩⟩ ?_
   refine ax<|c0 h rfl (fun h=>?_) (fun h=>?_)
   ·refine au<|aG J<|aG J<|zo J (mz kC aI J J J (cT hx))<|zo J (bC aI J J)<|bH<|aq aI J an J (ht J) (ht J)<|aP<|ap<|ax<|au<|aG rfl<|zo rfl (lT (cx hx hN) rfl)<|bq rfl<|aP<|bD ?_;exact bg (aR (ih (i+1) e1 ⟨cw hx,h⟩) (bu J))
   ·refine bA<|ap<|ax<|au<|aG rfl<|zo rfl (lT (cx hx hN) rfl)<|bq rfl<|aP ?_;exact bg (aR (ih (i+1) m ⟨cw hx,h⟩) (bu J))
 ·skip
  refine aw<|aG J<|zo J (i7 kC J)<|zo J (gx (ht J) hI)<|av<|c0 h J (fun h=>?_) (fun h=>?_)
  ·refine au ?_;exact(nn h).elim
  ·refine bA ?_;exact cF (K h) (bu J)

theorem Y1(a1:hU)(rows:(List (List ac))){R:ac×Int}(h:mw a1 rows=some R):aW aQ 76 [tD fG a1,bW (cR) rows] (tT [tD af R.1,bN R.2]):=by
 refine aW.of Tryz.func76 J J J fun w0 S0=>aw<|zo J (js J)<|aX (r:=af) (x:=iy) aI (fun _=>bk _) J fun b=>zo J (cy)<|av<|ah<|aw<|zo J (c9 AG ug J J)<|zo J (bC cr J J)<|zo J (nX J)<|av<|c0 h J (fun h=>?_) (fun h=>?_)
 ·refine aw<|aG J<|zo J (i7 i9 J)<|bB h fun r q_r h=>zo J (aB LY (BK _ q_r) ⟨(ht J),aS⟩)<|aq aI J an J (ht J) (ht J)<|zo J (cy)<|av<|am<|ae<|bj 4 J ?_;cases so h;exact bQ J J ⟨bt aI J J J,aZ J,aS⟩
 ·refine dP<|aw<|zo J (bC uE J J)<|aG J<|bB h fun r1 q_r1 h=>zo J (aB acz (Wr _ _ q_r1) ⟨(ht J),(ht J),aS⟩)<|aG J<|zo J (gE J J)<|zo J (gE J J)<|bq J<|bq J<|av<|ah<|aw<|aG J<|zo J (nX J)<|av<|c0 h J (fun h=>?_) (fun h=>?_)
  ·refine aw<|zo J (bY (y:=iy) aI qO bk (J))<|aG J<|aq aI J an J (ht J) (ht J)<|bq J<|av<|am<|ae<|bj 4 J ?_;cases so h;exact bQ J J ⟨bt aI J J J,aZ J,aS⟩
  ·refine dP<|aw<|zo J (aM (show aJ _ _ _ ((dR aQ Bb mA (fun(x:ac)=>ne x)))from(zJ acy fun x y h=>Wq _ h)))<|av<|ah<|ay<|aw<|zo J (c9 AG ug J J)<|zo J (bC cr J J)<|zo J (nX J)<|aG J<|bB h fun t q_t h=>dN J J (fun hg=>de J)<|dN J J (fun hg=>de J) ?_
   obtain⟨r2,h1t,h0t⟩:=og q_t
   have q_r2g:=fun hb=>(h1t hb).1
   refine dN J J (fun hg=>aB acx (Wp _ _ (q_r2g hg)) ⟨(bG J hg),(bG J hg),aS⟩)<|zo J (eT (ht J) (fun hb=>(bG J hb)) (fun hb=>(h1t hb).2) h0t)<|bq J<|av<|c0 h J (fun h=>?_) (fun h=>?_)
   ·refine aw<|zo J (bY (y:=iy) aI qO bk (J))<|aq aI J an J (ht J) (ht J)<|zo J (cy)<|av<|am ?_;refine aD (ae ?_);refine bj 4 J ?_;cases so h;exact bQ J J ⟨bt aI J J J,aZ J,aS⟩
   ·refine aw<|aG J<|zo J (s8 J)<|bq J<|av<|c0 h J (fun h=>?_) (fun h=>?_)
    ·refine aw<|zo J (bY (y:=iy) aI qO bk (J))<|aG J<|aq aI J an J (ht J) (ht J)<|bq J<|av<|am ?_;refine aD (ae ?_);refine bj 4 J ?_;cases so h;exact bQ J J ⟨bt aI J J J,aZ J,aS⟩
    ·refine aw<|zo J (c9 AG ug J J)<|zo J (bC cr J J)<|zo J (nX J)<|bq J<|av<|c0 h J (fun h=>?_) (fun h=>?_)
     ·refine aw<|aG J<|zo J (i7 kC J)<|bB h fun r3 q_r3 h=>zo J (aB LY (BK _ q_r3) ⟨(ht J),aS⟩)<|aq aI J an J (ht J) (ht J)<|zo J (cy)<|av<|am ?_;refine aD (ae ?_);refine bj 4 J ?_;cases so h;exact bQ J J ⟨bt aI J J J,aZ J,aS⟩
     ·refine aw<|zo J (c9 AG ug J J)<|zo J (bC cr J J)<|zo J (nX J)<|bq J<|av<|c0 h J (fun h=>?_) (fun h=>?_)
      ·refine aw<|aG J<|bB h fun r4 q_r4 h=>zo J (aB acw (Wo _ q_r4) ⟨(ht J),aS⟩)<|zo J (gE J J)<|zo J (gE J J)<|aq aI J an J (ht J) (ht J)<|bq J<|av<|am ?_;refine aD (ae ?_);refine bj 4 J ?_;cases so h;exact bQ J J ⟨bt aI J J J,aZ J,aS⟩
      ·refine aw<|aG J<|zo J (i7 kC J)<|zo J (nX J)<|bq J<|av<|c0 h J (fun h=>?_) (fun h=>?_)
       ·refine aw<|zo J (bY (y:=iy) aI qO bk (J))<|aq aI J an J (ht J) (ht J)<|zo J (cy)<|av<|am ?_;refine aD (ae ?_);refine bj 4 J ?_;cases so h;exact bQ J J ⟨bt aI J J J,aZ J,aS⟩
       ·refine aw<|zo J (c9 AG ug J J)<|zo J (bC cr J J)<|zo J (nX J)<|bq J<|av<|c0 h J (fun h=>?_) (fun h=>?_)
        ·refine aw<|aG J<|bB h fun r5 q_r5 h=>zo J (aB acv (Wn _ _ q_r5) ⟨(ht J),(zJ Tw fun x y h=>Jr _ _ h),aS⟩)<|aq aI J an J (ht J) (ht J)<|zo J (cy)<|av<|am ?_;refine aD (ae ?_);refine bj 4 J ?_;cases so h;exact bQ J J ⟨bt aI J J J,aZ J,aS⟩
        ·refine bA<|ap<|ax<|aw<|aG rfl<|bB h fun r6 q_r6 h=>zo J (aB acu (Wm _ _ q_r6) ⟨(ht J),(zJ Tw fun x y h=>Jr _ _ h),aS⟩)<|aq aI J an J (ht J) (ht J)<|zo J (cy)<|av<|am<|bj 4 J ?_;cases so h;exact bQ J J ⟨bt aI J J J,aZ J,aS⟩

theorem NU(l:(List (List (List ac)))){R:Int}(h:vG l=some R):aW aQ 97 [bW (dU) l] (bN R):=by
 refine aW.of Tryz.func97 J J J fun w0 S0=>aw<|zo J (cy)<|av<|aw<|zo J (cy)<|av<|ah<|aw<|aG J<|zo J (i7 o3 J)<|zo J (bE hI)<|av<|ay<|ba (k:=8) J fun hN=>bL ?_;refine aR (nE (Z:=fun ls i n=>(l.drop i=ls)∧lx ls n=some R) (Of:=fun _ i n=>[]) (Gf:=fun _ i n=>[(3,bN n),(8,bW (dU) l),(9,jr l),(10,bN (i:Int))]) (fun i n h=>?_) (fun e tl ih i n h=>?_) l 0 (0:Int) ⟨J,h⟩) (bu J)
 ·obtain⟨hx,h⟩:=h
  refine aA<|aw<|zo J (fF J J)<|av<|ah<|bz (ht J) (dm hx)<|bv ?_;refine ai (ai (aN ?_));refine ax<|ah<|aw<|aG rfl<|zo rfl (fU (ht rfl) hI)<|av<|c0 h rfl (fun h=>?_) (fun h=>?_)
  ·refine aw<|zo J (cy)<|av<|am<|ae ?_;cases so h;exact aH J J
  ·refine dP<|aw<|zo J (cy)<|av<|am ?_;cases so h;exact aH J J
 ·obtain⟨hx,h⟩:=h
  refine aA<|aw<|zo J (fF J J)<|av<|ah<|bw (ht J) (dg hx)<|dP<|ah<|ay<|aw<|zo J (mz o3 gU J J J (cT hx))<|zo J (bC gU J J)<|bq J<|av<|ah<|aw<|aG J<|zo J (i7 i9 J) ?_;refine zo J (bE hI)<|av<|ay<|ba (k:=14) J fun hN1=>bL ?_;refine aR (d7 (Z:=fun ls1 i1=>(e.drop i1=ls1)∧qg (lx tl) e n ls1=some R) (Of:=fun _ i1=>[]) (Gf:=fun _ i1=>[(3,bN n),(5,bW (cR) e),(8,bW (dU) l),(9,jr l),(10,bN (i:Int)),(14,bW (cR) e),(15,jr e),(16,bN (i1:Int))]) (fun i1 h=>?_) (fun e1 tl1 ih1 i1 h=>?_) e 0 ⟨J,h⟩) (bu J)
  ·obtain⟨hx1,h⟩:=h
   refine aA<|aw<|zo J (fF J J)<|av<|ah<|bz (ht J) (dm hx1)<|bv ?_;refine ai (ai (aN ?_));refine ax<|au<|aG rfl<|aG rfl<|zo rfl (i7 i9 rfl)<|zo rfl (OV (ht rfl) (ht rfl))<|bq rfl<|aP<|ap<|ax<|au<|zo rfl (lT (cx hx hN) rfl)<|aG rfl<|aP ?_;exact bg (aR (ih (i+1) (max n (e.length:Int)) ⟨cw hx,h⟩) (bu J))
  ·obtain⟨hx1,h⟩:=h
   refine aA<|aw<|zo J (fF J J)<|av<|ah<|bw (ht J) (dg hx1)<|dP<|ah<|ay<|aw<|zo J (mz i9 dy J J J (cT hx1))<|zo J (bC dy J J)<|bq J<|av<|aw<|aG J<|bB h fun r q_r h=>zo J (aB WJ (Jf _ q_r) ⟨(ht J),aS⟩) ?_;refine zo J (fj (ht J))<|av<|c0 h J (fun h=>?_) (fun h=>?_)
   ·refine aw<|zo J (cy)<|av<|am ?_;refine aD (ae (ae (aD (ae (aD (ae (ae (aD (ae ?_)))))))));cases so h;exact aH J J
   ·refine bA<|ap<|ax<|au<|zo rfl (lT (cx hx1 hN1) rfl)<|aG rfl<|aP ?_;exact bg (aR (ih1 (i1+1) ⟨cw hx1,h⟩) (bu J))

theorem VS(c:Int){R:Bool}(h:uI c=some R):aW aQ 257 [bN c] (iO R):=by
 refine aW.of Tryz.func257 J J J fun w0 S0=>aw<|zo J (jy)<|av<|aw<|aG J<|zo J (gx (ht J) hI)<|bq J<|av<|am ?_;cases so h;exact aH J J

theorem Vz(r:(List ac))(c:Int){R:Bool}(h:yY r c=some R):aW aQ 322 [bN c,bM cR r] (iO R):=by
 refine aW.of Tryz.func322 J J J fun w0 S0=>aw<|zo J (jy)<|av<|aw<|aG J<|zo J (gx (ht J) hI)<|aG J<|eG J J (fun hg=>de J)<|eG J J (fun hg=>bC dy J J)<|eG J J (fun hg=>cC jf (bG J hg))<|eG J J (fun hg=>ir (bG J hg) (bG J hg))<|zo J (xf J J)<|bq J<|av<|am ?_;cases so h;exact aH J J

theorem VR(r:(List ac))(columns:(List Int)){R:Bool}(h:D6 r columns=some R):aW aQ 259 [bW (af) r,mK columns] (iO R):=by
 refine aW.of Tryz.func259 J J J fun w0 S0=>aw<|zo J (js J)<|zo J (jy)<|av<|aw<|zo J ((show bR _ _ _ _ ((dR aQ Kb mA (fun(x:Int)=>(yY r) x)))from ig (cts:=[bM cR r]) (caps:=[.tmp 2]) abq ⟨(ht J),aS⟩ (fun x y h=>Vz _ _ h)))<|bq J<|av<|aw<|aG J<|zo J (i7 hX J)<|zo J (mY (ht J) hI)<|aG J<|bB h fun t q_t h=>dN J J (fun hg=>de J)<|dN J J (fun hg=>de J) ?_
 obtain⟨r1,h1t,h0t⟩:=og q_t
 have q_r1g:=fun hb=>(h1t hb).1
 refine dN J J (fun hg=>aB PK (Ej _ _ (q_r1g hg)) ⟨(bG J hg),(bG J hg),aS⟩)<|dN J J (fun hg=>fj (bG J hg))<|zo J (eT (ht J) (fun hb=>(bG J hb)) (fun hb=>(h1t hb).2) h0t)<|bq J<|av<|am ?_;cases so h;exact aH J J

theorem Wb(l:(List (List ac)))(columns:(List Int)){R:Int}(h:yZ l columns=some R):aW aQ 173 [bW (cR) l,mK columns] (bN R):=by
 refine aW.of Tryz.func173 J J J fun w0 S0=>aw<|zo J (cy)<|av<|ah<|aw<|aG J<|zo J (aU (r:=dU) (ys:=[l]) (xs:=[.tmp 9]) o3 gU J J J J J ⟨(ht J),aS⟩)<|bB h fun r q_r h=>zo J (aB ZC (NU _ q_r) ⟨(ht J),aS⟩)<|bq J<|av<|aw<|aG J<|zo J (s8 J)<|av<|c0 h J (fun h=>?_) (fun h=>?_)
 ·refine aw<|aG J<|bq J<|av<|am<|ae ?_;cases so h;exact aH J J
 ·refine dP<|aw<|zo J (aM (show aJ _ _ _ ((dR aQ Kb mA (fun(x:Int)=>uI x)))from(zJ abK fun x y h=>VS _ h)))<|av<|ah<|aw<|aG J<|zo J (i7 hX J)<|zo J (fU (ht J) hI)<|aG J<|bB h fun t q_t h=>eG J J (fun hg=>de J)<|eG J J (fun hg=>de J) ?_
  obtain⟨r1,h1t,h0t⟩:=og q_t
  have q_r1g:=fun hb=>(h1t hb).1
  refine eG J J (fun hg=>aB PK (Ej _ _ (q_r1g hg)) ⟨(bG J hg),(bG J hg),aS⟩)<|zo J (gZ (ht J) (fun hb=>(bG J (wK hb))) (fun hb=>(h1t hb).2) h0t)<|av<|c0 h J (fun h=>?_) (fun h=>?_)
  ·refine aw<|zo J (cy)<|av<|am<|ae ?_;cases so h;exact aH J J
  ·refine dP<|ah<|aw<|aG J<|zo J (i7 i9 J)<|zo J (bE hI)<|av<|ay<|ba (k:=23) J fun hN=>bL ?_;refine aR (d7 (Z:=fun ls i=>(l.drop i=ls)∧qh columns ls=some R) (Of:=fun _ i=>[]) (Gf:=fun _ i=>[(1,mK columns),(23,bW (cR) l),(24,jr l),(25,bN (i:Int))]) (fun i h=>?_) (fun e tl ih i h=>?_) l 0 ⟨J,h⟩) (bu J)
   ·obtain⟨hx,h⟩:=h
    refine aA<|aw<|zo J (fF J J)<|av<|ah<|bz (ht J) (dm hx)<|bv ?_;refine ai (ai (aN ?_));refine ax<|aw<|zo rfl (cy)<|av<|am ?_;cases so h;exact aH J J
   ·obtain⟨hx,h⟩:=h
    refine aA<|aw<|zo J (fF J J)<|av<|ah<|bw (ht J) (dg hx)<|dP<|ah<|ay<|aw<|zo J (mz i9 dy J J J (cT hx))<|zo J (bC dy J J)<|bq J<|av<|aw<|aG J<|aG J<|bB h fun r2 q_r2 h=>?_;refine zo J (aB abJ (VR _ _ q_r2) ⟨(ht J),(ht J),aS⟩)<|zo J (fj (ht J))<|av<|c0 h J (fun h=>?_) (fun h=>?_)
    ·refine aw<|zo J (cy)<|av<|am ?_;refine aD (ae (ae (aD (ae ?_))));cases so h;exact aH J J
    ·refine bA<|ap<|ax<|au<|zo rfl (lT (cx hx hN) rfl)<|aG rfl<|aP ?_;exact bg (aR (ih (i+1) ⟨cw hx,h⟩) (bu J))

theorem FU(s:(List ac)){R:(List ac)}(h:cA s=some R):gp aQ 106 [bW (af) s] false af 46 R:=by
 refine gp.of Tryz.func106 J J J fun w0 S0=>aw<|bP false af 46<|zo J (aM ud)<|av<|ah<|aw<|aG J<|ut jf (ht J) J fun isnil hisnil=>av<|pu (ht J) (fun hc=>?_) (fun hc=>?_)
 ·have hx:=hisnil hc
  have h:some If=some R:=by simpa [cA,app,hx] using h
  refine aw<|bP false af 46<|zo J (aM ud)<|av<|am<|ae ?_;cases so h;exact gC J J
 ·refine dP<|aw<|ky (r:=af) (ys:=If) (xs:=[]) jf aI J J J J J trivial J fun l c=>aG J<|bB h fun x q_x h=>db aI J J J J jf J J (ht J) (ht J) q_x fun l1 c1=>bq J<|av<|am ?_;cases so h;exact gC J J
end Go.Proofs.YtfhhakidodmdfaaGreatDoor

