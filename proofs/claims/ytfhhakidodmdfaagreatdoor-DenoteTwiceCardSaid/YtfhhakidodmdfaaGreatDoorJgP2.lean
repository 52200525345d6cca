/- cP of this claim: P2. -/
import Derived.Test.YtfhhakidodmdfaaGreatDoorJgT
import Derived.Test.YtfhhakidodmdfaaGreatDoorJgP1
set_option linter.all false
namespace Go.Proofs.YtfhhakidodmdfaaGreatDoor
open Go
set_option maxRecDepth 100000

theorem OK(e:bG)(kinds:(List Int)){R:Bool}(h:rD e kinds=some R):aX aQ 282 [tD cj e,mv kinds] (iR R):=by
 refine aX.of Tryz.func282 J J J fun w0 S0=>aw<|zo J (jm J)<|zo J (jL)<|av<|aw<|zo J (bB j3 J J)<|aG J<|bC h fun r q_r h=>zo J (aC SF (IX _ _ q_r) ⟨(ht J),(ht J),aT⟩)<|aG J<|zo J (gp J J)<|zo J (gp J J)<|bp J<|bp J<|av<|aw<|aG J<|zo J (nI J) ?_;refine aG J<|dQ J J (fun hg=>dl J)<|dQ J J (fun hg=>dH (bN J hg) hI)<|dQ J J (fun hg=>bI (bN J hg))<|vD J J J J (fun hg=>dl J)<|vD J J J J (fun hg=>dH (bN J hg) hI)<|dQ J J (fun hg=>yD (bN J hg) (fun hb=>(bN J (Dx hg (Ae hb)))))<|zo J (u6 J J)<|bp J<|av<|am ?_;cases so h;exact aJ J J

theorem YN(b:Nat)(ix:OI)(c:aE)(n:aj){R:(List Int)×Bool}(h:gN c n=some R):cX aQ 203 [tV (aN b 0),tD aF n] (dw b c ix) (fun _:OI=>tT [mv R.1,iR R.2]) (fun _=>(dw b c ix)):=by
 refine cX.of Tryz.func203 J J J fun w0 S0=>?_;refine(show CG _ _ _ [bx (rH bn [(1,aR (ix.h 0).1 (ix.h 0).2 c.kinds.length),(2,aR (ix.h 1).1 (ix.h 1).2 c.first.length)]) 115 b c,dT nP 39 (ix.h 0).1 (ix.h 0).2 c.kinds,dT cd 3 (ix.h 1).1 (ix.h 1).2 c.first] _ from ?_);refine aw<|zo J (jm J)<|zo J (aM (show aI _ _ _ xq from jQ))<|zo J (jL)<|av<|ah<|bC h fun e q_e h=>bC h fun e1 q_e1 h=>bC h fun r q_r h=>?_
 refine c9 (ts:=[_,_,_,_,_,_,_,_,_,_,_,_,_,_,_,_,_,_,_]) mixed J J
  ⟨eM 0 J J J (dl J),
  ⟨bY 7 0 J J J (dB (ht J)),
  ⟨bY 8 1 J J J (jN 1 nM J J J),
  ⟨bY 9 2 J J J (dd ta J (.head _) (.tail _ (.head _)) (ht J)),
  ⟨eM 3 J J J (df ju dN J J),
  ⟨bY 11 4 J J J (bB cx J J),
  ⟨d8 10 3 12 5 J J J J (br vQ d9 J (kz (ht J)) (ht J) q_e),
  ⟨bY 13 6 J J J (bB d9 J J),
  ⟨eM 0 J J J (dl J),
  ⟨bY 15 8 J J J (dB (ht J)),
  ⟨bY 16 9 J J J (jN 1 nM J J J),
  ⟨bY 17 10 J J J (dd ta J (.head _) (.tail _ (.head _)) (ht J)),
  ⟨eM 3 J J J (df qm kI J J),
  ⟨bY 19 12 J J J (bB cx J J),
  ⟨d8 18 11 20 13 J J J J (br vQ d9 J (kz (ht J)) (ht J) q_e1),
  ⟨bY 21 14 J J J (bB d9 J J),
  ⟨d8 14 7 22 15 J J J J (aS (r:=xp) (ys:=[e,e1]) (xs:=[.tmp 14,.tmp 22]) vQ d9 J J J J J ⟨(ht J),(ht J),aT⟩),
  ⟨bY 23 16 J J J (aC aa0 (U3 _ q_r) ⟨(ht J),aT⟩),
  ⟨bY 24 17 J J J (u8 J),
  aT⟩⟩⟩⟩⟩⟩⟩⟩⟩⟩⟩⟩⟩⟩⟩⟩⟩⟩⟩ ?_
 refine ax<|aw<|aG rfl<|zo rfl (df uV ol rfl rfl)<|zo rfl (bB j3 rfl rfl)<|aG rfl<|bC h fun r1 q_r1 h=>zo J (aC WS (OK _ _ q_r1) ⟨(ht J),(ht J),aT⟩)<|bp J<|bp J<|av<|am<|aK<|aK<|aK ?_;cases so h;exact d6 (ts:=[mv r,iR r1]) (rvs:=[.tmp 4,.tmp 5]) J J ⟨aZ J,aZ J,aT⟩ pS J J

theorem YM(b:Nat)(ix:OI)(c:aE)(n:aj){R:(List Int)×Bool}(h:fS c n=some R):cX aQ 204 [tV (aN b 0),tD aF n] (dw b c ix) (fun _:OI=>tT [mv R.1,iR R.2]) (fun _=>(dw b c ix)):=by
 refine cX.of Tryz.func204 J J J fun w0 S0=>?_;refine(show CG _ _ _ [bx (rH bn [(1,aR (ix.h 0).1 (ix.h 0).2 c.kinds.length),(2,aR (ix.h 1).1 (ix.h 1).2 c.first.length)]) 115 b c,dT nP 39 (ix.h 0).1 (ix.h 0).2 c.kinds,dT cd 3 (ix.h 1).1 (ix.h 1).2 c.first] _ from ?_);refine aw<|zo J (jm J)<|zo J (aM (show aI _ _ _ xq from jQ))<|zo J (jL)<|av<|ah<|bC h fun e q_e h=>bC h fun r q_r h=>?_
 refine c9 (ts:=[_,_,_,_,_,_,_,_,_,_,_,_,_,_,_,_,_,_,_,_,_]) mixed J J
  ⟨eM 0 J J J (dl J),
  ⟨bY 6 0 J J J (dB (ht J)),
  ⟨bY 7 1 J J J (jN 1 nM J J J),
  ⟨bY 8 2 J J J (dd ta J (.head _) (.tail _ (.head _)) (ht J)),
  ⟨eM 3 J J J (df ju dN J J),
  ⟨bY 10 4 J J J (bB cx J J),
  ⟨d8 9 3 11 5 J J J J (br vQ d9 J (kz (ht J)) (ht J) q_e),
  ⟨bY 12 6 J J J (bB d9 J J),
  ⟨eM 3 J J J (df uV ol J J),
  ⟨bY 14 8 J J J (bB j3 J J),
  ⟨eM 0 J J J (dl J),
  ⟨bY 16 10 J J J (dB (ht J)),
  ⟨bY 17 11 J J J (jN 1 nM J J J),
  ⟨bY 18 12 J J J (dd ta J (.head _) (.tail _ (.head _)) (ht J)),
  ⟨eM 3 J J J (df ju dN J J),
  ⟨bY 20 14 J J J (bB cx J J),
  ⟨d8 19 13 21 15 J J J J (br vQ d9 J (kz (ht J)) (ht J) q_e),
  ⟨bY 22 16 J J J (bB d9 J J),
  ⟨d8 15 9 23 17 J J J J (aC WS (OK _ _ q_r) ⟨(ht J),(ht J),aT⟩),
  ⟨bY 13 7 J J J (u8 J),
  ⟨bY 24 18 J J J (u8 J),
  aT⟩⟩⟩⟩⟩⟩⟩⟩⟩⟩⟩⟩⟩⟩⟩⟩⟩⟩⟩⟩⟩ ?_
 refine ax<|am<|aK<|aK<|aK ?_;cases so h;exact d6 (ts:=[mv e,iR r]) (rvs:=[.tmp 4,.tmp 5]) J J ⟨aZ J,aZ J,aT⟩ pS J J

theorem UH(kinds:(List Int))(c:Int){R:Bool}(h:qe kinds c=some R):aX aQ 344 [bM c,bK nP kinds] (iR R):=by
 refine aX.of Tryz.func344 J J J fun w0 S0=>aw<|zo J (jL)<|av<|aw<|aG J<|zo J (gi (ht J) hI)<|aG J<|gz J J (fun hg=>dl J)<|gz J J (fun hg=>bB d9 J J)<|gz J J (fun hg=>cW gT (bN J hg))<|gz J J (fun hg=>jq (bN J hg) (bN J hg))<|zo J (xo J J)<|bp J<|av<|am ?_;cases so h;exact aJ J J

theorem U2(l:(List Int))(kinds:(List Int)){R:Bool}(h:sD l kinds=some R):aX aQ 283 [mv l,mv kinds] (iR R):=by
 refine aX.of Tryz.func283 J J J fun w0 S0=>aw<|zo J (jm J)<|zo J (jL)<|av<|aw<|aG J<|zo J ((show bS _ _ _ _ ((dX aQ Jw nH (fun(x:Int)=>(qe kinds) x)))from iK (cts:=[bK nP kinds]) (caps:=[.tmp 3]) aaD ⟨(ht J),aT⟩ (fun x y h=>UH _ _ h)))<|bC h fun r q_r h=>zo J (aC O9 (DM _ _ q_r) ⟨(ht J),(ht J),aT⟩)<|zo J (gh (ht J))<|bp J<|av<|am ?_;cases so h;exact aJ J J

theorem U1(a1:gS)(kinds:(List Int)){R:Int×Bool}(h:yH a1 kinds=some R):aX aQ 284 [tD fm a1,mv kinds] (tT [bM R.1,iR R.2]):=by
 refine aX.of Tryz.func284 J J J fun w0 S0=>aw<|zo J (jm J)<|zo J (cD)<|zo J (jL)<|av<|ah<|aw<|zo J (df Ai tM J J)<|zo J (bB cx J J)<|zo J (nI J)<|av<|cU h J (fun h=>?_) (fun h=>?_)
 ·refine ah ?_
  refine c9 (ts:=[_,_,_,_,_,_,_]) mixed J J
   ⟨eM 2 J J J (df Co vx J J),
   ⟨bY 11 0 J J J (df qn lX J J),
   ⟨bY 12 1 J J J (bB AU J J),
   ⟨bY 13 2 J J J (jg vP J),
   ⟨bY 14 3 J J J (nI J),
   ⟨Pv J J (cD),
   ⟨bY 15 4 J J J (u8 J),
   aT⟩⟩⟩⟩⟩⟩⟩ ?_
  refine ax<|am<|ae ?_;cases so h;exact cC J J J
 ·refine dS<|aw<|zo J (df Co vx J J)<|zo J (bB j3 J J)<|aG J<|bC h fun r q_r h=>zo J (aC SF (IX _ _ q_r) ⟨(ht J),(ht J),aT⟩)<|aG J<|zo J (gp J J)<|zo J (gp J J)<|bp J<|bp J<|av<|ah<|aw<|zo J (df Ai tM J J)<|zo J (bB cx J J)<|av<|aA ?_;refine aw<|zo J (nI J)<|bp J<|av<|cU h J (fun h=>?_) (fun h=>?_)
  ·refine aw<|aG J<|zo J (nI J)<|zo J (cD)<|bp J<|av<|am ?_;refine aD (ae ?_);cases so h;exact cC J J J
  ·refine aw<|zo J (nI J)<|bp J<|av<|cU h J (fun h=>?_) (fun h=>?_)
   ·refine aw<|aG J<|zo J (nI J)<|aG J<|dQ J J (fun hg=>dl J)<|dQ J J (fun hg=>dH (bN J hg) hI)<|dQ J J (fun hg=>bI (bN J hg))<|vD J J J J (fun hg=>dl J)<|vD J J J J (fun hg=>dH (bN J hg) hI)<|dQ J J (fun hg=>yD (bN J hg) (fun hb=>(bN J (Dx hg (Ae hb)))))<|zo J (u6 J J)<|zo J (cD)<|bp J<|av<|am ?_;refine aD (ae ?_);cases so h;exact cC J J J
   ·refine kw (Z:=fun x=>sE r x=some R) (Of:=fun x=>[]) (Gf:=fun x=>[(6,bM r.1),(7,bM r.2),(41,iR x)]) (fun x h=>?_) (fun K=>?_)
    ·skip
     refine cU h J (fun h=>?_) (fun h=>?_)
     ·refine aw<|aG J<|aG J<|zo J (nI J)<|bp J<|bp J<|av<|am ?_;refine aD (ae ?_);cases so h;exact cC J J J
     ·refine bA<|aq<|ax<|aw<|zo rfl (cD)<|zo rfl (jL)<|av<|am ?_;cases so h;exact cC J J J
    ·skip
     refine aw<|zo J (nI J)<|bp J<|av<|cU h J (fun h=>?_) (fun h=>?_)
     ·refine bA ?_;exact cw (K (a1.Tag==(4:Int)) h) (bu J)
     ·refine au<|zo J (nI J)<|bp J<|aP ?_;exact cw (K (a1.Tag==(5:Int)) h) (bu J)

theorem YL(b:Nat)(ix:OI)(c:aE)(n:aj){R:(List Int)×Bool}(h:gy c n=some R):cX aQ 205 [tV (aN b 0),tD aF n] (dw b c ix) (fun _:OI=>tT [mv R.1,iR R.2]) (fun _=>(dw b c ix)):=by
 refine cX.of Tryz.func205 J J J fun w0 S0=>?_;refine(show CG _ _ _ [bx (rH bn [(1,aR (ix.h 0).1 (ix.h 0).2 c.kinds.length),(2,aR (ix.h 1).1 (ix.h 1).2 c.first.length)]) 115 b c,dT nP 39 (ix.h 0).1 (ix.h 0).2 c.kinds,dT cd 3 (ix.h 1).1 (ix.h 1).2 c.first] _ from ?_);refine aw<|zo J (jm J)<|zo J (aM (show aI _ _ _ xq from jQ))<|zo J (jL)<|av<|ah<|bC h fun e q_e h=>?_
 refine c9 (ts:=[_,_,_,_,_,_,_,_,_]) mixed J J
  ⟨eM 0 J J J (dl J),
  ⟨bY 15 0 J J J (dB (ht J)),
  ⟨bY 16 1 J J J (jN 1 nM J J J),
  ⟨bY 17 2 J J J (dd ta J (.head _) (.tail _ (.head _)) (ht J)),
  ⟨eM 3 J J J (df ju dN J J),
  ⟨bY 19 4 J J J (bB cx J J),
  ⟨d8 18 3 20 5 J J J J (br vQ d9 J (kz (ht J)) (ht J) q_e),
  ⟨bY 21 6 J J J (bB d9 J J),
  ⟨bY 22 7 J J J (u8 J),
  aT⟩⟩⟩⟩⟩⟩⟩⟩⟩ ?_
 refine ax<|aw<|zo rfl (df tN mQ rfl rfl)<|zo rfl (bB d9 rfl rfl)<|zo rfl (jg gT rfl)<|zo rfl (n9 (ht rfl) hI)<|aG rfl<|dQ rfl rfl (fun hg=>df qX oj J J)<|dQ J J (fun hg=>bO B4 J J (bN J hg))<|dQ J J (fun hg=>cW wT (bN J hg))<|dQ J J (fun hg=>n9 (bN J hg) hI)<|zo J (u6 J J)<|aG J<|dQ J J (fun hg=>df tN mQ J J)<|dQ J J (fun hg=>bO d9 J J (bN J hg))<|dQ J J (fun hg=>cW gT (bN J hg))<|dQ J J (fun hg=>df qX oj J J)<|dQ J J (fun hg=>bO B4 J J (bN J hg))<|dQ J J (fun hg=>cW wT (bN J hg))<|dQ J J (fun hg=>oa (bN J hg) (bN J hg))<|dQ J J (fun hg=>gv (bN J hg) hI)<|zo J (u6 J J)<|aG J ?_;refine bC h fun t q_t h=>dQ J J (fun hg=>df tN mQ J J)<|dQ J J (fun hg=>bO d9 J J (bN J hg))<|dQ J J (fun hg=>dl J) ?_
 obtain⟨r,h1t,h0t⟩:=og q_t
 have q_rg:=fun hb=>(h1t hb).1
 refine dQ J J (fun hg=>aC aaZ (U2 _ _ (q_rg hg)) ⟨(bN J hg),(bN J hg),aT⟩)<|zo J (fQ (ht J) (fun hb=>(bN J hb)) (fun hb=>(h1t hb).2) h0t)<|bp J<|av<|ah<|aw<|aG J<|zo J (gh (ht J))<|av<|cU h J (fun h=>?_) (fun h=>?_)
 ·refine aw<|zo J (aM (show aI _ _ _ xq from jQ))<|zo J (jL)<|av<|am<|ae<|aK<|aK<|aK ?_;cases so h;exact d6 (ts:=[mv ([]),iR false]) (rvs:=[.tmp 4,.tmp 5]) J J ⟨aZ J,aZ J,aT⟩ pS J J
 ·refine dS<|aw<|bQ false cd 3<|zo J (aM tJ)<|av<|ah<|aw<|zo J (df tN mQ J J)<|zo J (bB d9 J J)<|zo J (jg gT J)<|zo J (bI hI)<|av<|aA<|be (k:=52) J fun hN=>bL ?_;refine aU (jW (Z:=fun ls i out l c1=>(n.Keys.drop i=ls)∧gj n e t ls out=some R) (Of:=fun _ i out l c1=>[fj cd 3 l c1 out,bx (rH bn [(1,aR (ix.h 0).1 (ix.h 0).2 c.kinds.length),(2,aR (ix.h 1).1 (ix.h 1).2 c.first.length)]) 115 b c,dT nP 39 (ix.h 0).1 (ix.h 0).2 c.kinds,dT cd 3 (ix.h 1).1 (ix.h 1).2 c.first]) (Gf:=fun _ i out l c1=>[(3,bK aF n),(6,mv e),(7,iR t),(8,sb l c1 out),(52,mv n.Keys),(53,jz n.Keys),(54,bM (i:Int))]) (fun i out l c1 h=>?_) (fun e1 tl ih i out l c1 h=>?_) n.Keys 0 u7 none 0 ⟨J,h⟩) (bu J)
  ·obtain⟨hx,h⟩:=h
   refine aB<|aw<|zo J (fM J J)<|av<|ah<|bz (ht J) (du hx)<|bv ?_;refine ai (ai (aO ?_));refine ax<|ah<|aw<|zo rfl (df qX oj rfl rfl)<|zo rfl (bB B4 rfl rfl)<|zo rfl (jg wT rfl)<|zo rfl (bI hI)<|av<|aA<|be (k:=67) J fun hN1=>bL ?_;refine aU (ub (Z:=fun ls1 i1 out1 l1 c2 ok=>(n.Aggs.drop i1=ls1)∧eT e ls1 out1 ok=some R) (Of:=fun _ i1 out1 l1 c2 ok=>[fj cd 3 l1 c2 out1,bx (rH bn [(1,aR (ix.h 0).1 (ix.h 0).2 c.kinds.length),(2,aR (ix.h 1).1 (ix.h 1).2 c.first.length)]) 115 b c,dT nP 39 (ix.h 0).1 (ix.h 0).2 c.kinds,dT cd 3 (ix.h 1).1 (ix.h 1).2 c.first]) (Gf:=fun _ i1 out1 l1 c2 ok=>[(6,mv e),(7,iR ok),(8,sb l1 c2 out1),(67,ca (fm) n.Aggs),(68,jz n.Aggs),(69,bM (i1:Int))]) (fun i1 out1 l1 c2 ok h=>?_) (fun e2 tl1 ih1 i1 out1 l1 c2 ok h=>?_) n.Aggs 0 out l c1 t ⟨J,h⟩) (bu J)
   ·obtain⟨hx1,h⟩:=h
    refine aB<|aw<|zo J (fM J J)<|av<|ah<|bz (ht J) (du hx1)<|bv ?_;refine ai (ai (aO ?_));refine ax<|aw<|aG rfl<|aG rfl<|bp rfl<|bp rfl<|av<|am<|jD<|cE 8 rfl<|cE 88 rfl<|cE 4 rfl<|jE 4 rfl<|ba<|aK<|aK<|aK ?_;cases so h;exact d6 (ts:=[mv out1,iR ok]) (rvs:=[.tmp 4,.tmp 5]) J J ⟨aZ J,aZ J,aT⟩ pS J J
   ·obtain⟨hx1,h⟩:=h
    refine aB<|aw<|zo J (fM J J)<|av<|ah<|bw (ht J) (di hx1)<|dS<|ah<|aA<|aw<|zo J (my wT ug J J J (da hx1))<|zo J (bB ug J J)<|aW (r:=fm) (x:=Xs) ug (fun _=>D8 _) J fun b1=>ap ug J an J (ht J) (ht J)<|aV 12 J<|av<|aw<|zo J (bB ug J J) ?_;refine aG J<|bC h fun r1 q_r1 h=>zo J (aC aaY (U1 _ _ q_r1) ⟨(ht J),(ht J),aT⟩)<|aG J<|zo J (gp J J)<|zo J (gp J J)<|bp J<|bp J<|av<|au<|aG J<|aG J<|zo J (aS (r:=cd) (ys:=[r1.1]) (xs:=[.tmp 80]) gT cx J J J J J ⟨(ht J),aT⟩)<|bC h fun out2 q_out2 h=>cT cx J J J J gT J J (ht J) (ht J) q_out2 fun l2 c3=>aG J<|aG J<|dQ J J (fun hg=>dl J)<|zo J (u6 J J)<|bp J<|bp J<|aP<|aq ?_;refine ax<|au<|zo rfl (mz (cM hx1 hN1) rfl)<|aG rfl<|aP ?_;exact bm (aU (ih1 (i1+1) out2 l2 c3 (ok&&r1.2) ⟨cL hx1,h⟩) (bu J))
  ·obtain⟨hx,h⟩:=h
   refine aB<|aw<|zo J (fM J J)<|av<|ah<|bw (ht J) (di hx)<|dS<|ah<|aA<|aw<|zo J (my gT cx J J J (da hx))<|zo J (bB cx J J)<|bp J<|av<|au<|aG J<|aG J<|aG J<|bC h fun e3 q_e3 h=>?_;refine zo J (my gT cx J J J q_e3)<|zo J (bB cx J J)<|zo J (aS (r:=cd) (ys:=[e3]) (xs:=[.tmp 62]) gT cx J J J J J ⟨(ht J),aT⟩)<|bC h fun out3 q_out3 h=>cT cx J J J J gT J J (ht J) (ht J) q_out3 fun l3 c4=>bp J<|aP<|aq<|ax<|au<|zo rfl (mz (cM hx hN) rfl)<|aG rfl<|aP ?_;exact bm (aU (ih (i+1) out3 l3 c4 ⟨cL hx,h⟩) (bu J))

theorem YK(b:Nat)(ix:OI)(c:aE)(n:aj){R:(List Int)×Bool}(h:fq c n=some R):cX aQ 206 [tV (aN b 0),tD aF n] (dw b c ix) (fun _:OI=>tT [mv R.1,iR R.2]) (fun _=>(dw b c ix)):=by
 refine cX.of Tryz.func206 J J J fun w0 S0=>?_;refine(show CG _ _ _ [bx (rH bn [(1,aR (ix.h 0).1 (ix.h 0).2 c.kinds.length),(2,aR (ix.h 1).1 (ix.h 1).2 c.first.length)]) 115 b c,dT nP 39 (ix.h 0).1 (ix.h 0).2 c.kinds,dT cd 3 (ix.h 1).1 (ix.h 1).2 c.first] _ from ?_);refine aw<|zo J (jm J)<|zo J (aM (show aI _ _ _ xq from jQ))<|zo J (jL)<|av<|aw<|zo J (df qW mP J J)<|zo J (bB AS J J)<|zo J (jg xf J)<|zo J (jq (ht J) hI)<|aG J<|dQ J J (fun hg=>df qW mP J J)<|dQ J J (fun hg=>bO AS J J (bN J hg))<|dQ J J (fun hg=>cW xf (bN J hg))<|dQ J J (fun hg=>n9 (bN J hg) hI)<|zo J (u6 J J)<|bp J<|av<|aw ?_;refine bQ false cd 3<|zo J (aM tJ)<|av<|ah<|aw<|zo J (df qW mP J J)<|zo J (bB AS J J)<|zo J (jg xf J)<|zo J (bI hI)<|av<|aA<|be (k:=23) J fun hN=>bL ?_;refine aU (ub (Z:=fun ls i out l c1 ok=>(n.Items.drop i=ls)∧fg c n ls out ok=some R) (Of:=fun _ i out l c1 ok=>[fj cd 3 l c1 out,bx (rH bn [(1,aR (ix.h 0).1 (ix.h 0).2 c.kinds.length),(2,aR (ix.h 1).1 (ix.h 1).2 c.first.length)]) 115 b c,dT nP 39 (ix.h 0).1 (ix.h 0).2 c.kinds,dT cd 3 (ix.h 1).1 (ix.h 1).2 c.first]) (Gf:=fun _ i out l c1 ok=>[(0,tV (aN b 0)),(3,bK aF n),(6,iR ok),(7,sb l c1 out),(23,ca (cj) n.Items),(24,jz n.Items),(25,bM (i:Int))]) (fun i out l c1 ok h=>?_) (fun e tl ih i out l c1 ok h=>?_) n.Items 0 u7 none 0 ((decide ((1:Int)≤(n.Items.length:Int)))&&(decide ((n.Items.length:Int)≤(16:Int)))) ⟨J,h⟩) (bu J)
 ·obtain⟨hx,h⟩:=h
  refine aB<|aw<|zo J (fM J J)<|av<|ah<|bz (ht J) (du hx)<|bv ?_;refine ai (ai (aO ?_));refine ax<|aw<|aG rfl<|aG rfl<|bp rfl<|bp rfl<|av<|am<|jD<|cE 7 rfl<|cE 52 rfl<|cE 4 rfl<|jE 4 rfl<|ba<|aK<|aK<|aK ?_;cases so h;exact d6 (ts:=[mv out,iR ok]) (rvs:=[.tmp 4,.tmp 5]) J J ⟨aZ J,aZ J,aT⟩ pS J J
 ·obtain⟨hx,h⟩:=h
  refine aB<|aw<|zo J (fM J J)<|av<|ah<|bw (ht J) (di hx)<|dS<|ah<|aA<|aw<|zo J (my xf j3 J J J (da hx))<|zo J (bB j3 J J)<|aW (r:=cj) (x:=zQ) j3 (fun _=>pX _) J fun b1=>ap j3 J an J (ht J) (ht J)<|aV 9 J<|av<|ah<|bC h fun e1 q_e1 h=>bC h fun r q_r h=>?_
  refine c9 (ts:=[_,_,_,_,_,_,_,_,_,_,_,_,_,_,_]) mixed J J
   ⟨eM 9 J J J (bB j3 J J),
   ⟨eM 0 J J J (dl J),
   ⟨bY 31 1 J J J (dB (ht J)),
   ⟨bY 32 2 J J J (jN 1 nM J J J),
   ⟨bY 33 3 J J J (dd ta J (.tail _ (.head _)) (.tail _ (.tail _ (.head _))) (ht J)),
   ⟨eM 3 J J J (df ju dN J J),
   ⟨bY 35 5 J J J (bB cx J J),
   ⟨d8 34 4 36 6 J J J J (br vQ d9 J (kz (ht J)) (ht J) q_e1),
   ⟨bY 37 7 J J J (bB d9 J J),
   ⟨d8 30 0 38 8 J J J J (aC SF (IX _ _ q_r) ⟨(ht J),(ht J),aT⟩),
   ⟨bY 39 9 J J J (dl J),
   ⟨bY 29 10 J J J (gp J J),
   ⟨bY 29 10 J J J (gp J J),
   ⟨bY 40 11 J J J (u8 J),
   ⟨bY 41 12 J J J (u8 J),
   aT⟩⟩⟩⟩⟩⟩⟩⟩⟩⟩⟩⟩⟩⟩⟩ ?_
  refine ax<|au<|aG rfl<|aG rfl<|zo rfl (aS (r:=cd) (ys:=[r.1]) (xs:=[.tmp 43]) gT cx J J J J J ⟨(ht J),aT⟩)<|bC h fun out1 q_out1 h=>cT cx J J J J gT J J (ht J) (ht J) q_out1 fun l1 c2=>aG J<|aG J<|dQ J J (fun hg=>dl J)<|dQ J J (fun hg=>dH (bN J hg) hI)<|zo J (u6 J J)<|bp J<|bp J<|aP<|aq<|ax<|au<|zo rfl (mz (cM hx hN) rfl)<|aG rfl<|aP ?_;exact bm (aU (ih (i+1) out1 l1 c2 (ok&&(r.2==(0:Int))) ⟨cL hx,h⟩) (bu J))

theorem YJ(b:Nat)(ix:OI)(c:aE)(n:aj){R:(List Int)×Bool}(h:eV c n=some R):cX aQ 207 [tV (aN b 0),tD aF n] (dw b c ix) (fun _:OI=>tT [mv R.1,iR R.2]) (fun _=>(dw b c ix)):=by
 refine cX.of Tryz.func207 J J J fun w0 S0=>?_;refine(show CG _ _ _ [bx (rH bn [(1,aR (ix.h 0).1 (ix.h 0).2 c.kinds.length),(2,aR (ix.h 1).1 (ix.h 1).2 c.first.length)]) 115 b c,dT nP 39 (ix.h 0).1 (ix.h 0).2 c.kinds,dT cd 3 (ix.h 1).1 (ix.h 1).2 c.first] _ from ?_);refine aw<|zo J (jm J)<|zo J (aM (show aI _ _ _ xq from jQ))<|zo J (jL)<|av<|ah<|bC h fun e q_e h=>?_
 refine c9 (ts:=[_,_,_,_,_,_,_,_,_,_]) mixed J J
  ⟨eM 0 J J J (dl J),
  ⟨bY 6 0 J J J (dB (ht J)),
  ⟨bY 7 1 J J J (jN 1 nM J J J),
  ⟨bY 8 2 J J J (dd ta J (.head _) (.tail _ (.head _)) (ht J)),
  ⟨eM 3 J J J (df ju dN J J),
  ⟨bY 10 4 J J J (bB cx J J),
  ⟨d8 9 3 11 5 J J J J (br vQ d9 J (kz (ht J)) (ht J) q_e),
  ⟨bY 12 6 J J J (bB d9 J J),
  ⟨bY 13 7 J J J (u8 J),
  ⟨Pv J J (jL),
  aT⟩⟩⟩⟩⟩⟩⟩⟩⟩⟩ ?_
 refine ax<|am<|aK<|aK<|aK ?_;cases so h;exact d6 (ts:=[mv e,iR true]) (rvs:=[.tmp 4,.tmp 5]) J J ⟨aZ J,aZ J,aT⟩ pS J J

theorem YI(b:Nat)(ix:OI)(c:aE)(n:aj){R:(List Int)×Bool}(h:gw c n=some R):cX aQ 208 [tV (aN b 0),tD aF n] (dw b c ix) (fun _:OI=>tT [mv R.1,iR R.2]) (fun _=>(dw b c ix)):=by
 refine cX.of Tryz.func208 J J J fun w0 S0=>?_;refine(show CG _ _ _ [bx (rH bn [(1,aR (ix.h 0).1 (ix.h 0).2 c.kinds.length),(2,aR (ix.h 1).1 (ix.h 1).2 c.first.length)]) 115 b c,dT nP 39 (ix.h 0).1 (ix.h 0).2 c.kinds,dT cd 3 (ix.h 1).1 (ix.h 1).2 c.first] _ from ?_);refine aw<|zo J (jm J)<|zo J (aM (show aI _ _ _ xq from jQ))<|zo J (jL)<|av<|ah<|bC h fun e q_e h=>bC h fun e1 q_e1 h=>?_
 refine c9 (ts:=[_,_,_,_,_,_,_,_,_,_,_,_,_,_,_,_,_,_]) mixed J J
  ⟨eM 0 J J J (dl J),
  ⟨bY 12 0 J J J (dB (ht J)),
  ⟨bY 13 1 J J J (jN 1 nM J J J),
  ⟨bY 14 2 J J J (dd ta J (.head _) (.tail _ (.head _)) (ht J)),
  ⟨eM 3 J J J (df ju dN J J),
  ⟨bY 16 4 J J J (bB cx J J),
  ⟨d8 15 3 17 5 J J J J (br vQ d9 J (kz (ht J)) (ht J) q_e),
  ⟨bY 18 6 J J J (bB d9 J J),
  ⟨eM 0 J J J (dl J),
  ⟨bY 20 8 J J J (dB (ht J)),
  ⟨bY 21 9 J J J (jN 1 nM J J J),
  ⟨bY 22 10 J J J (dd ta J (.head _) (.tail _ (.head _)) (ht J)),
  ⟨eM 3 J J J (df qm kI J J),
  ⟨bY 24 12 J J J (bB cx J J),
  ⟨d8 23 11 25 13 J J J J (br vQ d9 J (kz (ht J)) (ht J) q_e1),
  ⟨bY 26 14 J J J (bB d9 J J),
  ⟨bY 19 7 J J J (u8 J),
  ⟨bY 27 15 J J J (u8 J),
  aT⟩⟩⟩⟩⟩⟩⟩⟩⟩⟩⟩⟩⟩⟩⟩⟩⟩⟩ ?_
 refine ax<|ah<|aw<|aG rfl<|zo rfl (jg gT rfl)<|aG rfl<|zo rfl (jg gT rfl)<|zo rfl (fe (ht rfl) (ht rfl))<|av<|cU h rfl (fun h=>?_) (fun h=>?_)
 ·refine aw<|zo J (aM (show aI _ _ _ xq from jQ))<|zo J (jL)<|av<|am<|ae<|aK<|aK<|aK ?_;cases so h;exact d6 (ts:=[mv ([]),iR false]) (rvs:=[.tmp 4,.tmp 5]) J J ⟨aZ J,aZ J,aT⟩ pS J J
 ·refine dS<|aw<|aG J<|bC h fun r q_r h=>iy SC (IT _ q_r) ⟨(ht J),aT⟩ J fun l c1=>bp J<|av<|aw<|zo J (jL)<|av<|ah<|aw<|aG J<|zo J (jg gT J)<|zo J (bI hI)<|av<|aA ?_;refine be (k:=35) J fun hN=>bL ?_;refine aU (vE (Z:=fun ls i out ok=>(e1.drop i=ls)∧dC ls i out ok=some R) (Of:=fun _ i out ok=>[fj cd 3 l c1 out,bx (rH bn [(1,aR (ix.h 0).1 (ix.h 0).2 c.kinds.length),(2,aR (ix.h 1).1 (ix.h 1).2 c.first.length)]) 115 b c,dT nP 39 (ix.h 0).1 (ix.h 0).2 c.kinds,dT cd 3 (ix.h 1).1 (ix.h 1).2 c.first]) (Gf:=fun _ i out ok=>[(8,sb l c1 out),(9,iR ok),(35,mv e1),(36,jz e1),(37,bM (i:Int))]) (fun i out ok h=>?_) (fun e2 tl ih i out ok h=>?_) e1 0 r true ⟨J,h⟩) (bu J)
  ·obtain⟨hx,h⟩:=h
   refine aB<|aw<|zo J (fM J J)<|av<|ah<|bz (ht J) (du hx)<|bv ?_;refine ai (ai (aO ?_));refine ax<|aw<|aG rfl<|aG rfl<|bp rfl<|bp rfl<|av<|am<|jD<|cE 8 rfl<|cE 65 rfl<|cE 4 rfl<|jE 4 rfl<|ba<|aK<|aK<|aK ?_;cases so h;exact d6 (ts:=[mv out,iR ok]) (rvs:=[.tmp 4,.tmp 5]) J J ⟨aZ J,aZ J,aT⟩ pS J J
  ·obtain⟨hx,h⟩:=h
   refine aB<|aw<|zo J (fM J J)<|av<|ah<|bw (ht J) (di hx)<|dS<|ah<|aA<|aw<|aG J<|zo J (my gT cx J J J (da hx))<|zo J (bB cx J J)<|bp J<|bp J<|av ?_;refine kw (Z:=fun out1=>ir (dC tl) i e2 ok out1=some R) (Of:=fun out1=>[fj cd 3 l c1 out1,bx (rH bn [(1,aR (ix.h 0).1 (ix.h 0).2 c.kinds.length),(2,aR (ix.h 1).1 (ix.h 1).2 c.first.length)]) 115 b c,dT nP 39 (ix.h 0).1 (ix.h 0).2 c.kinds,dT cd 3 (ix.h 1).1 (ix.h 1).2 c.first]) (Gf:=fun out1=>[(8,sb l c1 out1),(9,iR ok),(10,bM (i:Int)),(11,bM e2),(35,mv e1),(36,jz e1),(37,bM (i:Int))]) (fun out1 h=>?_) (fun K=>?_)
   ·skip
    refine au<|aG J<|aG J<|bC h fun t q_t h=>dQ J J (fun hg=>dl J)<|dQ J J (fun hg=>dl J) ?_
    obtain⟨e3,h1t,h0t⟩:=og q_t
    have q_e3g:=fun hb=>(h1t hb).1
    refine dQ J J (fun hg=>cK gT cx (.head _) (bN J hg) (bN J hg) (q_e3g hg))<|dQ J J (fun hg=>gq (r:=cd) (i:=(i:Int)) (foff:=0) cx J J bT J (.head _) (q_e3g hg) (bN J hg))<|dQ J J (fun hg=>dl J)<|dQ J J (fun hg=>dH (bN J hg) (bN J hg))<|dQ J J (fun hg=>bI (bN J hg))<|vD J J J J (fun hg=>dl J)<|vD J J J J (fun hg=>dH (bN J hg) hI)<|dQ J J (fun hg=>yD (bN J hg) (fun hb=>(bN J (Dx hg (Ae hb)))))<|zo J (fQ (ht J) (fun hb=>(bN J hb)) (fun hb=>(h1t hb).2) h0t)<|bp J<|aP<|aq<|ax<|au<|zo rfl (mz (cM hx hN) rfl)<|aG rfl<|aP ?_;exact bm (aU (ih (i+1) out1 t ⟨cL hx,h⟩) (bu J))
   ·skip
    refine aw<|aG J<|aG J<|bC h fun e4 q_e4 h=>zo J (cK gT cx (.head _) (ht J) (ht J) q_e4)<|zo J (gq (r:=cd) (i:=(i:Int)) (foff:=0) cx J J bT J (.head _) q_e4 (ht J))<|zo J (nI J)<|av<|cU h J (fun h=>?_) (fun h=>?_)
    ·refine au<|aG J<|aG J<|aG J<|zo J (cK gT cx (.head _) (ht J) (ht J) q_e4)<|bC h fun st q_st h=>sW cx J an J q_e4 (so q_st) (ht J) (ht J)<|iH (mE (so q_st)) 8 J<|iH (mE (so q_st)) 42 J<|iH (mE (so q_st)) 47 J<|aP ?_;exact cw (K st h) (bu J)
    ·refine bA ?_;exact cw (K out h) (bu J)

theorem Vj(s:(List gG))(f:(gG→Option Bool)){R:Int}(h:il s f=some R):aX aQ 229 [ca (gI) s,(dX aQ QL nH (fun(x:gG)=>f x))] (bM R):=by
 refine aX.of Tryz.func229 J J J fun w0 S0=>aw<|zo J (cD)<|av<|ah<|aw<|aG J<|zo J (jg DW J)<|zo J (bI hI)<|av<|aA<|be (k:=6) J fun hN=>bL ?_;refine aU (eI (Z:=fun ls i=>(s.drop i=ls)∧dE f ls i=some R) (Of:=fun _ i=>[]) (Gf:=fun _ i=>[(0,ca (gI) s),(1,(dX aQ QL nH (fun(x:gG)=>f x))),(7,jz s),(8,bM (i:Int))]) (fun i h=>?_) (fun e tl ih i h=>?_) s 0 ⟨J,h⟩) (bu J)
 ·obtain⟨hx,h⟩:=h
  refine aB<|aw<|zo J (fM J J)<|av<|ah<|bz (ht J) (du hx)<|bv ?_;refine ai (ai (aO ?_));refine ax<|aw<|zo rfl (cD)<|av<|am ?_;cases so h;exact aJ J J
 ·obtain⟨hx,h⟩:=h
  refine aB<|aw<|zo J (fM J J)<|av<|ah<|bw (ht J) (di hx)<|dS<|ah<|aA<|aw<|aG J<|bp J<|av<|aw<|aG J<|aG J<|aG J<|zo J (my DW JH J J J (da hx)) ?_;refine zo J (bB JH J J)<|bC h fun r q_r h=>zo J (gZ (args:=QL) (res:=HS) (f:=(fun(x:gG)=>f x)) (x:=((e):gG)) (ht J) q_r ⟨(ht J),aT⟩)<|av<|cU h J (fun h=>?_) (fun h=>?_)
  ·refine aw<|aG J<|bp J<|av<|am ?_;refine aD (ae (ae (aD (ae ?_))));cases so h;exact aJ J J
  ·refine bA<|aq<|ax<|au<|zo rfl (mz (cM hx hN) rfl)<|aG rfl<|aP ?_;exact bm (aU (ih (i+1) ⟨cL hx,h⟩) (bu J))

theorem VH(s:(List gG))(f:(gG→Option Bool)){R:Bool}(h:ez s f=some R):aX aQ 149 [ca (gI) s,(dX aQ QL nH (fun(x:gG)=>f x))] (iR R):=by
 refine aX.of Tryz.func149 J J J fun w0 S0=>aw<|zo J (jL)<|av<|aw<|aG J<|aG J<|bC h fun r q_r h=>zo J (aC abh (Vj _ _ q_r) ⟨(ht J),(ht J),aT⟩)<|zo J (jq (ht J) hI)<|bp J<|av<|am ?_;cases so h;exact aJ J J

end Go.Proofs.YtfhhakidodmdfaaGreatDoor

