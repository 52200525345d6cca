/- cP of this claim: P9. -/
import Derived.Test.YtfhhakidodmdfaaGreatDoorJgT
import Derived.Test.YtfhhakidodmdfaaGreatDoorJgP8
set_option linter.all false
namespace Go.Proofs.YtfhhakidodmdfaaGreatDoor
open Go
set_option maxRecDepth 100000

theorem VC(s1:(List ac))(s2:(List ac))(cmp:(ac→ac→Option Int)){R:Int}(h:cr s1 s2 cmp=some R):aX aQ 160 [ca (af) s1,ca (af) s2,(dX aQ qx y6 (fun(x:ac×ac)=>cmp x.1 x.2))] (bM R):=by
 refine aX.of Tryz.func160 J J J fun w0 S0=>aw<|zo J (cD)<|av<|ah<|aw<|aG J<|zo J (jg jh J)<|zo J (bI hI)<|av<|aA<|be (k:=11) J fun hN=>bL ?_;refine aU (eI (Z:=fun ls i=>(s1.drop i=ls)∧bH s1 s2 cmp ls i=some R) (Of:=fun _ i=>[]) (Gf:=fun _ i=>[(0,ca (af) s1),(1,ca (af) s2),(2,(dX aQ qx y6 (fun(x:ac×ac)=>cmp x.1 x.2))),(11,ca (af) s1),(12,jz s1),(13,bM (i:Int))]) (fun i h=>?_) (fun e tl ih i h=>?_) s1 0 ⟨J,h⟩) (bu J)
 ·obtain⟨hx,h⟩:=h
  refine aB<|aw<|zo J (fM J J)<|av<|ah<|bz (ht J) (du hx)<|bv ?_;refine ai (ai (aO ?_));refine ax<|ah<|aw<|aG rfl<|zo rfl (jg jh rfl)<|aG rfl<|zo rfl (jg jh rfl)<|zo rfl (fM rfl rfl)<|av<|cU h rfl (fun h=>?_) (fun h=>?_)
  ·refine aw<|zo J (cD)<|av<|am<|ae ?_;cases so h;exact aJ J J
  ·refine dS<|aw<|zo J (cD)<|av<|am ?_;cases so h;exact aJ J J
 ·obtain⟨hx,h⟩:=h
  refine aB<|aw<|zo J (fM J J)<|av<|ah<|bw (ht J) (di hx)<|dS<|ah<|aA<|aw<|aG J<|zo J (my jh aH J J J (da hx))<|zo J (bB aH J J)<|aW (r:=af) (x:=ig) aH (fun _=>bj _) J fun b=>bp J<|ap aH J an J (ht J) (ht J)<|aV 8 J<|av<|ah ?_;refine aw<|aG J<|aG J<|zo J (jg jh J)<|zo J (jq (ht J) (ht J))<|av<|cU h J (fun h=>?_) (fun h=>?_)
  ·refine aw<|zo J (cD)<|av<|am ?_;refine ae (aD (ae (ae (aD (ae ?_)))));cases so h;exact aJ J J
  ·refine dS<|aw<|aG J<|aG J<|bC h fun e1 q_e1 h=>zo J (my jh aH J J J q_e1)<|zo J (bB aH J J)<|aW (r:=af) (x:=ig) aH (fun _=>bj _) J fun b1=>ap aH J an J (ht J) (ht J)<|aV 9 J<|av<|aw<|aG J<|zo J (bB aH J J)<|zo J (bB aH J J)<|bC h fun r q_r h=>zo J (gZ (args:=qx) (res:=Tq) (f:=(fun(x:ac×ac)=>cmp x.1 x.2)) (x:=((e,e1):ac×ac)) (ht J) q_r ⟨(ht J),(ht J),aT⟩)<|bp J<|av ?_;refine aw<|aG J<|zo J (s4 J)<|av<|cU h J (fun h=>?_) (fun h=>?_)
   ·refine aw<|aG J<|bp J<|av<|am ?_;refine aD (ae (ae (aD (ae ?_))));cases so h;exact aJ J J
   ·refine bA<|aq<|ax<|au<|zo rfl (mz (cM hx hN) rfl)<|aG rfl<|aP ?_;exact bm (aU (ih (i+1) ⟨cL hx,h⟩) (bu J))

theorem OH(p:Int){R:Bool}(h:oL p=some R):aX aQ 311 [tD HP p] (iR R):=by
 refine aX.of Tryz.func311 J J J fun w0 S0=>aw<|zo J (jL)<|av<|aw<|aG J<|aG J<|zo J (fe (ht J) (ht J))<|bp J<|av<|am ?_;cases so h;exact aJ J J

theorem Vh(p:Int)(y:Int){R:Int}(h:mZ p y=some R):aX aQ 244 [tD HP p,tD HP y] (bM R):=by
 refine aX.of Tryz.func244 J J J fun w0 S0=>aw<|zo J (cD)<|av<|aw<|aG J<|bC h fun r q_r h=>zo J (aC WQ (OH _ q_r) ⟨(ht J),aT⟩)<|bp J<|av<|aw<|aG J<|bC h fun r1 q_r1 h=>zo J (aC WQ (OH _ q_r1) ⟨(ht J),aT⟩)<|bp J<|av<|ah<|ah ?_;refine au<|aG J<|av<|cU h J (fun h=>?_) (fun h=>?_)
 ·refine ah<|aw<|aG J<|av<|cU h J (fun h=>?_) (fun h=>?_)
  ·refine aw<|zo J (cD)<|av<|am ?_;refine ae (ae ?_);cases so h;exact aJ J J
  ·refine dS<|aw<|zo J (cD)<|av<|am<|ae ?_;cases so h;exact aJ J J
 ·refine dS<|ah<|aw<|aG J<|av<|cU h J (fun h=>?_) (fun h=>?_)
  ·refine aw<|zo J (cD)<|av<|am<|ae ?_;cases so h;exact aJ J J
  ·refine dS<|ah<|aw<|aG J<|aG J<|zo J (fM J J)<|av<|cU h J (fun h=>?_) (fun h=>?_)
   ·refine aw<|zo J (cD)<|av<|am<|ae ?_;cases so h;exact aJ J J
   ·refine dS<|ah<|aw<|aG J<|aG J<|zo J (gv (ht J) (ht J))<|av<|cU h J (fun h=>?_) (fun h=>?_)
    ·refine aw<|zo J (cD)<|av<|am<|ae ?_;cases so h;exact aJ J J
    ·refine dS<|aw<|zo J (cD)<|av<|am ?_;cases so h;exact aJ J J

theorem OG(p:xb){R:Bool}(h:oM p=some R):aX aQ 312 [tD rS p] (iR R):=by
 refine aX.of Tryz.func312 J J J fun w0 S0=>aw<|zo J (jL)<|av<|aw<|aG J<|aG J<|zo J (T5 (ht J) (ht J))<|bp J<|av<|am ?_;cases so h;exact aJ J J

theorem Vg(p:xb)(y:xb){R:Int}(h:m4 p y=some R):aX aQ 245 [tD rS p,tD rS y] (bM R):=by
 refine aX.of Tryz.func245 J J J fun w0 S0=>aw<|zo J (cD)<|av<|aw<|aG J<|bC h fun r q_r h=>zo J (aC WP (OG _ q_r) ⟨(ht J),aT⟩)<|bp J<|av<|aw<|aG J<|bC h fun r1 q_r1 h=>zo J (aC WP (OG _ q_r1) ⟨(ht J),aT⟩)<|bp J<|av<|ah<|ah ?_;refine au<|aG J<|av<|cU h J (fun h=>?_) (fun h=>?_)
 ·refine ah<|aw<|aG J<|av<|cU h J (fun h=>?_) (fun h=>?_)
  ·refine aw<|zo J (cD)<|av<|am ?_;refine ae (ae ?_);cases so h;exact aJ J J
  ·refine dS<|aw<|zo J (cD)<|av<|am<|ae ?_;cases so h;exact aJ J J
 ·refine dS<|ah<|aw<|aG J<|av<|cU h J (fun h=>?_) (fun h=>?_)
  ·refine aw<|zo J (cD)<|av<|am<|ae ?_;cases so h;exact aJ J J
  ·refine dS<|ah<|aw<|aG J<|aG J<|zo J (T6 (ht J) (ht J))<|av<|cU h J (fun h=>?_) (fun h=>?_)
   ·refine aw<|zo J (cD)<|av<|am<|ae ?_;cases so h;exact aJ J J
   ·refine dS<|ah<|aw<|aG J<|aG J<|zo J (T8 (ht J) (ht J))<|av<|cU h J (fun h=>?_) (fun h=>?_)
    ·refine aw<|zo J (cD)<|av<|am<|ae ?_;cases so h;exact aJ J J
    ·refine dS<|aw<|zo J (cD)<|av<|am ?_;cases so h;exact aJ J J

theorem VB(a1:ac)(b:ac){R:Int}(h:pq a1 b=some R):aX aQ 161 [tD af a1,tD af b] (bM R):=by
 refine aX.of Tryz.func161 J J J fun w0 S0=>aw<|zo J (jm J)<|zo J (jm J)<|zo J (cD)<|av<|ah<|bC h fun r q_r h=>bC h fun r1 q_r1 h=>bC h fun r2 q_r2 h=>bC h fun r3 q_r3 h=>bC h fun r4 q_r4 h=>?_
 refine c9 (ts:=[_,_,_,_,_,_,_,_,_,_,_,_,_,_,_,_,_,_,_,_,_,_,_]) mixed J J
  ⟨eM 2 J J J (df hZ cQ J J),
  ⟨bY 5 0 J J J (bB cx J J),
  ⟨eM 3 J J J (df hZ cQ J J),
  ⟨bY 7 2 J J J (bB cx J J),
  ⟨d8 6 1 8 3 J J J J (aC aar (R2 _ _ q_r) ⟨(ht J),(ht J),aT⟩),
  ⟨eM 2 J J J (df lY ft J J),
  ⟨bY 10 5 J J J (bB F8 J J),
  ⟨eM 3 J J J (df lY ft J J),
  ⟨bY 12 7 J J J (bB F8 J J),
  ⟨d8 11 6 13 8 J J J J (aC WZ (OQ _ _ q_r1) ⟨(ht J),(ht J),aT⟩),
  ⟨eM 2 J J J (df Cp qS J J),
  ⟨bY 15 10 J J J (bB Mc J J),
  ⟨eM 3 J J J (df Cp qS J J),
  ⟨bY 17 12 J J J (bB Mc J J),
  ⟨d8 16 11 18 13 J J J J (aC abf (Vh _ _ q_r2) ⟨(ht J),(ht J),aT⟩),
  ⟨eM 2 J J J (df xX oh J J),
  ⟨bY 20 15 J J J (bB TE J J),
  ⟨eM 3 J J J (df xX oh J J),
  ⟨bY 22 17 J J J (bB TE J J),
  ⟨d8 21 16 23 18 J J J J (aC abe (Vg _ _ q_r3) ⟨(ht J),(ht J),aT⟩),
  ⟨⟨[⟨9,_,some 4⟩,⟨14,_,some 9⟩,⟨19,_,some 14⟩,⟨24,_,some 19⟩],_,J,⟨J,J,J,J,aT⟩,J,J,ay J (aS (r:=cd) (ys:=[r,r1,r2,r3]) (xs:=[.tmp 9,.tmp 14,.tmp 19,.tmp 24]) gT cx J J J J J ⟨(ht J),(ht J),(ht J),(ht J),aT⟩)⟩,
  ⟨bY 25 20 J J J (aC SM (I2 _ q_r4) ⟨(ht J),aT⟩),
  ⟨bY 26 21 J J J (u8 J),
  aT⟩⟩⟩⟩⟩⟩⟩⟩⟩⟩⟩⟩⟩⟩⟩⟩⟩⟩⟩⟩⟩⟩⟩ ?_
 refine ax<|am ?_;cases so h;exact aJ J J

theorem IS(a1:(List ac))(b:(List ac)){R:Int}(h:pI a1 b=some R):aX aQ 95 [ca (af) a1,ca (af) b] (bM R):=by
 refine aX.of Tryz.func95 J J J fun w0 S0=>aw<|zo J (cD)<|av<|aw<|aG J<|aG J<|bC h fun r q_r h=>zo J (aC abQ (VC _ _ _ q_r) ⟨(ht J),(ht J),(zC abP fun x y h=>VB _ _ h),aT⟩)<|bp J<|av<|am ?_;cases so h;exact aJ J J

theorem R7(a1:(List ac))(b:(List ac)){R:Int}(h:pJ a1 b=some R):aX aQ 38 [ca (af) a1,ca (af) b] (bM R):=by
 refine aX.of Tryz.func38 J J J fun w0 S0=>aw<|zo J (cD)<|av<|ah<|aw<|aG J<|bC h fun r q_r h=>zo J (aC Y4 (Nb _ q_r) ⟨(ht J),aT⟩)<|zo J (gh (ht J))<|aG J<|bC h fun t q_t h=>gz J J (fun hg=>dl J) ?_
 obtain⟨r1,h1t,h0t⟩:=og q_t
 have q_r1g:=fun hb=>(h1t hb).1
 refine gz J J (fun hg=>aC Y4 (Nb _ (q_r1g hg)) ⟨(bN J hg),aT⟩)<|gz J J (fun hg=>gh (bN J hg))<|zo J (kG (ht J) (fun hb=>(bN J (Ae hb))) (fun hb=>(h1t hb).2) h0t)<|av<|cU h J (fun h=>?_) (fun h=>?_)
 ·refine aw<|zo J (cD)<|av<|am<|ae ?_;cases so h;exact aJ J J
 ·refine dS<|aw<|aG J<|aG J<|bC h fun r2 q_r2 h=>zo J (aC V4 (IS _ _ q_r2) ⟨(ht J),(ht J),aT⟩)<|bp J<|av<|am ?_;cases so h;exact aJ J J

theorem I4(a1:ac)(b:ac){R:Int}(h:ik a1 b=some R):aX aQ 136 [tD af a1,tD af b] (bM R):=by
 refine aX.of Tryz.func136 J J J fun w0 S0=>aw<|zo J (jm J)<|zo J (jm J)<|zo J (cD)<|av<|aw<|zo J (bB aH J J)<|zo J (aS (r:=af) (ys:=[a1]) (xs:=[.tmp 5]) jh aH J J J J J ⟨(ht J),aT⟩)<|zo J (bB aH J J)<|zo J (aS (r:=af) (ys:=[b]) (xs:=[.tmp 7]) jh aH J J J J J ⟨(ht J),aT⟩)<|bC h fun r q_r h=>zo J (aC aaw (R7 _ _ q_r) ⟨(ht J),(ht J),aT⟩)<|bp J<|av<|am ?_;cases so h;exact aJ J J

theorem VI(p:(List ac))(cmp:(ac→ac→Option Int)){R:ac}(h:eO p cmp=some R):aX aQ 137 [ca (af) p,(dX aQ qx y6 (fun(x:ac×ac)=>cmp x.1 x.2))] (tD af R):=by
 refine aX.of Tryz.func137 J J J fun w0 S0=>aw<|aW (r:=af) (x:=ig) aH (fun _=>bj _) J fun b=>av ?_;refine sX (Z:=gb p cmp=some R) (Of:=[bx af 46 b ig]) (Gf:=[(0,ca (af) p),(1,(dX aQ qx y6 (fun(x:ac×ac)=>cmp x.1 x.2))),(4,tV (aN b 0))]) (fun h=>?_) (fun K=>?_)
 ·skip
  refine aw<|aG J<|bC h fun e q_e h=>zo J (br ki aH J (ht J) hI q_e)<|zo J (bB aH J J)<|aW (r:=af) (x:=ig) aH (fun _=>bj _) J fun b1=>ap aH J an J (ht J) (ht J)<|av<|ah<|aw<|zo J (cD)<|av<|aA<|be (k:=0) J fun hN=>bL<|hU ?_;refine aU (oz (Z:=fun ls i m=>(p.drop i=ls)∧cG cmp ls m=some R) (Of:=fun _ i m=>[bx af 46 b ig,bx af 46 b1 m]) (Gf:=fun _ i m=>[(0,ca (af) p),(1,(dX aQ qx y6 (fun(x:ac×ac)=>cmp x.1 x.2))),(4,tV (aN b 0)),(5,tV (aN b1 0)),(6,bM (i:Int))]) (fun i m h=>?_) (fun e1 tl ih i m h=>?_) (p.drop (1)) 1 e ⟨J,h⟩) (bu J)
  ·obtain⟨hx,h⟩:=h
   refine aB<|ah<|aw<|aG J<|aG J<|zo J (jg ki J)<|zo J (fM J J)<|av<|bz (ht J) (du hx)<|bv ?_;refine ai (ai (aO ?_));refine ax<|aw<|zo rfl (cg aH rfl rfl bT (.tail _ (.head _)) (ht rfl))<|ap aH rfl an rfl (ht rfl) (ht rfl)<|aV 4 rfl<|av<|am<|ba ?_;cases so h;exact iX J aH J J J
  ·obtain⟨hx,h⟩:=h
   refine aB<|ah<|aw<|aG J<|aG J<|zo J (jg ki J)<|zo J (fM J J)<|av<|bw (ht J) (di hx)<|dS<|ah<|aA<|ah<|bC h fun r q_r h=>?_
   refine c9 (ts:=[_,_,_,_,_,_,_,_]) mixed J J
    ⟨eM 1 J J J (dl J),
    ⟨eM 0 J J J (dl J),
    ⟨eM 6 J J J (dl J),
    ⟨d8 21 1 22 2 J J J J (my ki aH J J J (da hx)),
    ⟨bY 23 3 J J J (bB aH J J),
    ⟨eM 5 J J J (cg aH J J bT (.tail _ (.head _)) (ht J)),
    ⟨GL 20 0 24 4 25 5 J J J J J (gZ (args:=qx) (res:=Tq) (f:=(fun(x:ac×ac)=>cmp x.1 x.2)) (x:=((e1,m):ac×ac)) (ht J) q_r ⟨(ht J),(ht J),aT⟩),
    ⟨bY 26 6 J J J (gv (ht J) hI),
    aT⟩⟩⟩⟩⟩⟩⟩⟩ ?_
   refine ax<|cU h rfl (fun h=>?_) (fun h=>?_)
   ·refine au<|aG J<|aG J<|zo J (my ki aH J J J (da hx))<|zo J (bB aH J J)<|bF<|ap aH J an J (ht J) (ht J)<|aP<|aq<|ax<|au<|aG rfl<|zo rfl (mz (cM hx hN) rfl)<|bp rfl<|aP<|bD ?_;exact bm (aU (ih (i+1) e1 ⟨cL hx,h⟩) (bu J))
   ·refine bA<|aq<|ax<|au<|aG rfl<|zo rfl (mz (cM hx hN) rfl)<|bp rfl<|aP ?_;exact bm (aU (ih (i+1) m ⟨cL hx,h⟩) (bu J))
 ·skip
  refine aw<|aG J<|zo J (jg ki J)<|zo J (gi (ht J) hI)<|av<|cU h J (fun h=>?_) (fun h=>?_)
  ·refine au ?_;exact(nn h).elim
  ·refine bA ?_;exact cw (K h) (bu J)

theorem Yu(a1:gS)(rows:(List (List ac))){R:ac×Int}(h:mh a1 rows=some R):aX aQ 76 [tD fm a1,ca (cY) rows] (tT [tD af R.1,bM R.2]):=by
 refine aX.of Tryz.func76 J J J fun w0 S0=>aw<|zo J (jm J)<|aW (r:=af) (x:=ig) aH (fun _=>bj _) J fun b=>zo J (cD)<|av<|ah<|aw<|zo J (df Ai tM J J)<|zo J (bB cx J J)<|zo J (nI J)<|av<|cU h J (fun h=>?_) (fun h=>?_)
 ·refine aw<|aG J<|zo J (jg jF J)<|bC h fun r q_r h=>zo J (aC Ln (Bt _ q_r) ⟨(ht J),aT⟩)<|ap aH J an J (ht J) (ht J)<|zo J (cD)<|av<|am<|ae<|bk 4 J ?_;cases so h;exact bR J J ⟨bq aH J J J,aZ J,aT⟩
 ·refine dS<|aw<|zo J (bB ug J J)<|aG J<|bC h fun r1 q_r1 h=>zo J (aC ab1 (VN _ _ q_r1) ⟨(ht J),(ht J),aT⟩)<|aG J<|zo J (gp J J)<|zo J (gp J J)<|bp J<|bp J<|av<|ah<|aw<|aG J<|zo J (nI J)<|av<|cU h J (fun h=>?_) (fun h=>?_)
  ·refine aw<|zo J (bU (y:=ig) aH qk bj (J))<|aG J<|ap aH J an J (ht J) (ht J)<|bp J<|av<|am<|ae<|bk 4 J ?_;cases so h;exact bR J J ⟨bq aH J J J,aZ J,aT⟩
  ·refine dS<|aw<|zo J (aM (show aI _ _ _ ((dX aQ AP nH (fun(x:ac)=>mX x)))from(zC ab0 fun x y h=>VM _ h)))<|av<|ah<|aA<|aw<|zo J (df Ai tM J J)<|zo J (bB cx J J)<|zo J (nI J)<|aG J<|bC h fun t q_t h=>dQ J J (fun hg=>dl J)<|dQ J J (fun hg=>dl J) ?_
   obtain⟨r2,h1t,h0t⟩:=og q_t
   have q_r2g:=fun hb=>(h1t hb).1
   refine dQ J J (fun hg=>aC abZ (VL _ _ (q_r2g hg)) ⟨(bN J hg),(bN J hg),aT⟩)<|zo J (fQ (ht J) (fun hb=>(bN J hb)) (fun hb=>(h1t hb).2) h0t)<|bp J<|av<|cU h J (fun h=>?_) (fun h=>?_)
   ·refine aw<|zo J (bU (y:=ig) aH qk bj (J))<|ap aH J an J (ht J) (ht J)<|zo J (cD)<|av<|am ?_;refine aD (ae ?_);refine bk 4 J ?_;cases so h;exact bR J J ⟨bq aH J J J,aZ J,aT⟩
   ·refine aw<|aG J<|zo J (s4 J)<|bp J<|av<|cU h J (fun h=>?_) (fun h=>?_)
    ·refine aw<|zo J (bU (y:=ig) aH qk bj (J))<|aG J<|ap aH J an J (ht J) (ht J)<|bp J<|av<|am ?_;refine aD (ae ?_);refine bk 4 J ?_;cases so h;exact bR J J ⟨bq aH J J J,aZ J,aT⟩
    ·refine aw<|zo J (df Ai tM J J)<|zo J (bB cx J J)<|zo J (nI J)<|bp J<|av<|cU h J (fun h=>?_) (fun h=>?_)
     ·refine aw<|aG J<|zo J (jg ki J)<|bC h fun r3 q_r3 h=>zo J (aC Ln (Bt _ q_r3) ⟨(ht J),aT⟩)<|ap aH J an J (ht J) (ht J)<|zo J (cD)<|av<|am ?_;refine aD (ae ?_);refine bk 4 J ?_;cases so h;exact bR J J ⟨bq aH J J J,aZ J,aT⟩
     ·refine aw<|zo J (df Ai tM J J)<|zo J (bB cx J J)<|zo J (nI J)<|bp J<|av<|cU h J (fun h=>?_) (fun h=>?_)
      ·refine aw<|aG J<|bC h fun r4 q_r4 h=>zo J (aC abY (VK _ q_r4) ⟨(ht J),aT⟩)<|zo J (gp J J)<|zo J (gp J J)<|ap aH J an J (ht J) (ht J)<|bp J<|av<|am ?_;refine aD (ae ?_);refine bk 4 J ?_;cases so h;exact bR J J ⟨bq aH J J J,aZ J,aT⟩
      ·refine aw<|aG J<|zo J (jg ki J)<|zo J (nI J)<|bp J<|av<|cU h J (fun h=>?_) (fun h=>?_)
       ·refine aw<|zo J (bU (y:=ig) aH qk bj (J))<|ap aH J an J (ht J) (ht J)<|zo J (cD)<|av<|am ?_;refine aD (ae ?_);refine bk 4 J ?_;cases so h;exact bR J J ⟨bq aH J J J,aZ J,aT⟩
       ·refine aw<|zo J (df Ai tM J J)<|zo J (bB cx J J)<|zo J (nI J)<|bp J<|av<|cU h J (fun h=>?_) (fun h=>?_)
        ·refine aw<|aG J<|bC h fun r5 q_r5 h=>zo J (aC abX (VJ _ _ q_r5) ⟨(ht J),(zC SO fun x y h=>I4 _ _ h),aT⟩)<|ap aH J an J (ht J) (ht J)<|zo J (cD)<|av<|am ?_;refine aD (ae ?_);refine bk 4 J ?_;cases so h;exact bR J J ⟨bq aH J J J,aZ J,aT⟩
        ·refine bA<|aq<|ax<|aw<|aG rfl<|bC h fun r6 q_r6 h=>zo J (aC abW (VI _ _ q_r6) ⟨(ht J),(zC SO fun x y h=>I4 _ _ h),aT⟩)<|ap aH J an J (ht J) (ht J)<|zo J (cD)<|av<|am<|bk 4 J ?_;cases so h;exact bR J J ⟨bq aH J J J,aZ J,aT⟩

theorem IR(l:(List (List (List ac)))){R:Int}(h:sL l=some R):aX aQ 97 [ca (dO) l] (bM R):=by
 refine aX.of Tryz.func97 J J J fun w0 S0=>aw<|zo J (cD)<|av<|aw<|zo J (cD)<|av<|ah<|aw<|aG J<|zo J (jg oA J)<|zo J (bI hI)<|av<|aA<|be (k:=8) J fun hN=>bL ?_;refine aU (oz (Z:=fun ls i n=>(l.drop i=ls)∧lg ls n=some R) (Of:=fun _ i n=>[]) (Gf:=fun _ i n=>[(3,bM n),(8,ca (dO) l),(9,jz l),(10,bM (i:Int))]) (fun i n h=>?_) (fun e tl ih i n h=>?_) l 0 (0:Int) ⟨J,h⟩) (bu J)
 ·obtain⟨hx,h⟩:=h
  refine aB<|aw<|zo J (fM J J)<|av<|ah<|bz (ht J) (du hx)<|bv ?_;refine ai (ai (aO ?_));refine ax<|ah<|aw<|aG rfl<|zo rfl (gv (ht rfl) hI)<|av<|cU h rfl (fun h=>?_) (fun h=>?_)
  ·refine aw<|zo J (cD)<|av<|am<|ae ?_;cases so h;exact aJ J J
  ·refine dS<|aw<|zo J (cD)<|av<|am ?_;cases so h;exact aJ J J
 ·obtain⟨hx,h⟩:=h
  refine aB<|aw<|zo J (fM J J)<|av<|ah<|bw (ht J) (di hx)<|dS<|ah<|aA<|aw<|zo J (my oA gF J J J (da hx))<|zo J (bB gF J J)<|bp J<|av<|ah<|aw<|aG J<|zo J (jg jF J) ?_;refine zo J (bI hI)<|av<|aA<|be (k:=14) J fun hN1=>bL ?_;refine aU (eI (Z:=fun ls1 i1=>(e.drop i1=ls1)∧p8 (lg tl) e n ls1=some R) (Of:=fun _ i1=>[]) (Gf:=fun _ i1=>[(3,bM n),(5,ca (cY) e),(8,ca (dO) l),(9,jz l),(10,bM (i:Int)),(14,ca (cY) e),(15,jz e),(16,bM (i1:Int))]) (fun i1 h=>?_) (fun e1 tl1 ih1 i1 h=>?_) e 0 ⟨J,h⟩) (bu J)
  ·obtain⟨hx1,h⟩:=h
   refine aB<|aw<|zo J (fM J J)<|av<|ah<|bz (ht J) (du hx1)<|bv ?_;refine ai (ai (aO ?_));refine ax<|au<|aG rfl<|aG rfl<|zo rfl (jg jF rfl)<|zo rfl (N9 (ht rfl) (ht rfl))<|bp rfl<|aP<|aq<|ax<|au<|zo rfl (mz (cM hx hN) rfl)<|aG rfl<|aP ?_;exact bm (aU (ih (i+1) (max n (e.length:Int)) ⟨cL hx,h⟩) (bu J))
  ·obtain⟨hx1,h⟩:=h
   refine aB<|aw<|zo J (fM J J)<|av<|ah<|bw (ht J) (di hx1)<|dS<|ah<|aA<|aw<|zo J (my jF dW J J J (da hx1))<|zo J (bB dW J J)<|bp J<|av<|aw<|aG J<|bC h fun r q_r h=>zo J (aC Y4 (Nb _ q_r) ⟨(ht J),aT⟩) ?_;refine zo J (gh (ht J))<|av<|cU h J (fun h=>?_) (fun h=>?_)
   ·refine aw<|zo J (cD)<|av<|am ?_;refine aD (ae (ae (aD (ae (aD (ae (ae (aD (ae ?_)))))))));cases so h;exact aJ J J
   ·refine bA<|aq<|ax<|au<|zo rfl (mz (cM hx1 hN1) rfl)<|aG rfl<|aP ?_;exact bm (aU (ih1 (i1+1) ⟨cL hx1,h⟩) (bu J))

theorem Vf(c:Int){R:Bool}(h:ul c=some R):aX aQ 257 [bM c] (iR R):=by
 refine aX.of Tryz.func257 J J J fun w0 S0=>aw<|zo J (jL)<|av<|aw<|aG J<|zo J (gi (ht J) hI)<|bp J<|av<|am ?_;cases so h;exact aJ J J

theorem UW(r:(List ac))(c:Int){R:Bool}(h:yr r c=some R):aX aQ 322 [bM c,bK cY r] (iR R):=by
 refine aX.of Tryz.func322 J J J fun w0 S0=>aw<|zo J (jL)<|av<|aw<|aG J<|zo J (gi (ht J) hI)<|aG J<|gz J J (fun hg=>dl J)<|gz J J (fun hg=>bB dW J J)<|gz J J (fun hg=>cW jh (bN J hg))<|gz J J (fun hg=>jq (bN J hg) (bN J hg))<|zo J (xo J J)<|bp J<|av<|am ?_;cases so h;exact aJ J J

theorem Ve(r:(List ac))(columns:(List Int)){R:Bool}(h:Dz r columns=some R):aX aQ 259 [ca (af) r,mv columns] (iR R):=by
 refine aX.of Tryz.func259 J J J fun w0 S0=>aw<|zo J (jm J)<|zo J (jL)<|av<|aw<|zo J ((show bS _ _ _ _ ((dX aQ Jw nH (fun(x:Int)=>(yr r) x)))from iK (cts:=[bK cY r]) (caps:=[.tmp 2]) aaT ⟨(ht J),aT⟩ (fun x y h=>UW _ _ h)))<|bp J<|av<|aw<|aG J<|zo J (jg gT J)<|zo J (n9 (ht J) hI)<|aG J<|bC h fun t q_t h=>dQ J J (fun hg=>dl J)<|dQ J J (fun hg=>dl J) ?_
 obtain⟨r1,h1t,h0t⟩:=og q_t
 have q_r1g:=fun hb=>(h1t hb).1
 refine dQ J J (fun hg=>aC O9 (DM _ _ (q_r1g hg)) ⟨(bN J hg),(bN J hg),aT⟩)<|dQ J J (fun hg=>gh (bN J hg))<|zo J (fQ (ht J) (fun hb=>(bN J hb)) (fun hb=>(h1t hb).2) h0t)<|bp J<|av<|am ?_;cases so h;exact aJ J J

theorem Vy(l:(List (List ac)))(columns:(List Int)){R:Int}(h:yu l columns=some R):aX aQ 173 [ca (cY) l,mv columns] (bM R):=by
 refine aX.of Tryz.func173 J J J fun w0 S0=>aw<|zo J (cD)<|av<|ah<|aw<|aG J<|zo J (aS (r:=dO) (ys:=[l]) (xs:=[.tmp 9]) oA gF J J J J J ⟨(ht J),aT⟩)<|bC h fun r q_r h=>zo J (aC V3 (IR _ q_r) ⟨(ht J),aT⟩)<|bp J<|av<|aw<|aG J<|zo J (s4 J)<|av<|cU h J (fun h=>?_) (fun h=>?_)
 ·refine aw<|aG J<|bp J<|av<|am<|ae ?_;cases so h;exact aJ J J
 ·refine dS<|aw<|zo J (aM (show aI _ _ _ ((dX aQ Jw nH (fun(x:Int)=>ul x)))from(zC abd fun x y h=>Vf _ h)))<|av<|ah<|aw<|aG J<|zo J (jg gT J)<|zo J (gv (ht J) hI)<|aG J<|bC h fun t q_t h=>gz J J (fun hg=>dl J)<|gz J J (fun hg=>dl J) ?_
  obtain⟨r1,h1t,h0t⟩:=og q_t
  have q_r1g:=fun hb=>(h1t hb).1
  refine gz J J (fun hg=>aC O9 (DM _ _ (q_r1g hg)) ⟨(bN J hg),(bN J hg),aT⟩)<|zo J (kG (ht J) (fun hb=>(bN J (Ae hb))) (fun hb=>(h1t hb).2) h0t)<|av<|cU h J (fun h=>?_) (fun h=>?_)
  ·refine aw<|zo J (cD)<|av<|am<|ae ?_;cases so h;exact aJ J J
  ·refine dS<|ah<|aw<|aG J<|zo J (jg jF J)<|zo J (bI hI)<|av<|aA<|be (k:=23) J fun hN=>bL ?_;refine aU (eI (Z:=fun ls i=>(l.drop i=ls)∧p9 columns ls=some R) (Of:=fun _ i=>[]) (Gf:=fun _ i=>[(1,mv columns),(23,ca (cY) l),(24,jz l),(25,bM (i:Int))]) (fun i h=>?_) (fun e tl ih i h=>?_) l 0 ⟨J,h⟩) (bu J)
   ·obtain⟨hx,h⟩:=h
    refine aB<|aw<|zo J (fM J J)<|av<|ah<|bz (ht J) (du hx)<|bv ?_;refine ai (ai (aO ?_));refine ax<|aw<|zo rfl (cD)<|av<|am ?_;cases so h;exact aJ J J
   ·obtain⟨hx,h⟩:=h
    refine aB<|aw<|zo J (fM J J)<|av<|ah<|bw (ht J) (di hx)<|dS<|ah<|aA<|aw<|zo J (my jF dW J J J (da hx))<|zo J (bB dW J J)<|bp J<|av<|aw<|aG J<|aG J<|bC h fun r2 q_r2 h=>?_;refine zo J (aC abc (Ve _ _ q_r2) ⟨(ht J),(ht J),aT⟩)<|zo J (gh (ht J))<|av<|cU h J (fun h=>?_) (fun h=>?_)
    ·refine aw<|zo J (cD)<|av<|am ?_;refine aD (ae (ae (aD (ae ?_))));cases so h;exact aJ J J
    ·refine bA<|aq<|ax<|au<|zo rfl (mz (cM hx hN) rfl)<|aG rfl<|aP ?_;exact bm (aU (ih (i+1) ⟨cL hx,h⟩) (bu J))

theorem Ft(s:(List ac)){R:(List ac)}(h:cz s=some R):fZ aQ 106 [ca (af) s] false af 46 R:=by
 refine fZ.of Tryz.func106 J J J fun w0 S0=>aw<|bQ false af 46<|zo J (aM tJ)<|av<|ah<|aw<|aG J<|tX jh (ht J) J fun isnil hisnil=>av<|pi (ht J) (fun hc=>?_) (fun hc=>?_)
 ·have hx:=hisnil hc
  have h:some HQ=some R:=by simpa [cz,app,hx] using h
  refine aw<|bQ false af 46<|zo J (aM tJ)<|av<|am<|ae ?_;cases so h;exact gn J J
 ·refine dS<|aw<|kh (r:=af) (ys:=HQ) (xs:=[]) jh aH J J J J J trivial J fun l c=>aG J<|bC h fun x q_x h=>cT aH J J J J jh J J (ht J) (ht J) q_x fun l1 c1=>bp J<|av<|am ?_;cases so h;exact gn J J
end Go.Proofs.YtfhhakidodmdfaaGreatDoor

