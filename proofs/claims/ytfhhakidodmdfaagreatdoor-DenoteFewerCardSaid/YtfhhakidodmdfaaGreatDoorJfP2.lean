/- cU of this claim: P2. -/
import Derived.Test.YtfhhakidodmdfaaGreatDoorJfT
import Derived.Test.YtfhhakidodmdfaaGreatDoorJfP1
set_option linter.all false
namespace Go.Proofs.YtfhhakidodmdfaaGreatDoor
open Go
set_option maxRecDepth 100000

theorem Pn(e:bJ)(kinds:(List Int)){R:Bool}(h:sb e kinds=some R):aW aQ 282 [tD co e,mK kinds] (iO R):=by
 refine aW.of Tryz.func282 J J J fun w0 S0=>aw<|zo J (js J)<|zo J (jy)<|av<|aw<|zo J (bC kQ J J)<|aG J<|bB h fun r q_r h=>zo J (aB Tl (Jk _ _ q_r) ⟨(ht J),(ht J),aS⟩)<|aG J<|zo J (gE J J)<|zo J (gE J J)<|bq J<|bq J<|av<|aw<|aG J<|zo J (nX J) ?_;refine aG J<|dN J J (fun hg=>de J)<|dN J J (fun hg=>dx (bG J hg) hI)<|dN J J (fun hg=>bE (bG J hg))<|wc J J J J (fun hg=>de J)<|wc J J J J (fun hg=>dx (bG J hg) hI)<|dN J J (fun hg=>zb (bG J hg) (fun hb=>(bG J (B3 hg (wK hb)))))<|zo J (vn J J)<|bq J<|av<|am ?_;cases so h;exact aH J J

theorem Zm(b:Nat)(ix:OI)(c:aE)(n:aj){R:(List Int)×Bool}(h:g9 c n=some R):dd aQ 203 [tV (aO b 0),tD aF n] (dD b c ix) (fun _:OI=>tT [mK R.1,iO R.2]) (fun _=>(dD b c ix)):=by
 refine dd.of Tryz.func203 J J J fun w0 S0=>?_;refine(show CG _ _ _ [bx (rH bn [(1,aT (ix.h 0).1 (ix.h 0).2 c.kinds.length),(2,aT (ix.h 1).1 (ix.h 1).2 c.first.length)]) 115 b c,dW od 39 (ix.h 0).1 (ix.h 0).2 c.kinds,dW ca 3 (ix.h 1).1 (ix.h 1).2 c.first] _ from ?_);refine aw<|zo J (js J)<|zo J (aM (show aJ _ _ _ xS from kE))<|zo J (jy)<|av<|ah<|bB h fun e q_e h=>bB h fun e1 q_e1 h=>bB h fun r q_r h=>?_
 refine da (ts:=[_,_,_,_,_,_,_,_,_,_,_,_,_,_,_,_,_,_,_]) mixed J J
  ⟨eH 0 J J J (de J),
  ⟨bZ 7 0 J J J (dF (ht J)),
  ⟨bZ 8 1 J J J (jY 1 n8 J J J),
  ⟨bZ 9 2 J J J (dl tI J (.head _) (.tail _ (.head _)) (ht J)),
  ⟨eH 3 J J J (c9 jH dS J J),
  ⟨bZ 11 4 J J J (bC cr J J),
  ⟨d3 10 3 12 5 J J J J (br wm ea J (lb (ht J)) (ht J) q_e),
  ⟨bZ 13 6 J J J (bC ea J J),
  ⟨eH 0 J J J (de J),
  ⟨bZ 15 8 J J J (dF (ht J)),
  ⟨bZ 16 9 J J J (jY 1 n8 J J J),
  ⟨bZ 17 10 J J J (dl tI J (.head _) (.tail _ (.head _)) (ht J)),
  ⟨eH 3 J J J (c9 qv kV J J),
  ⟨bZ 19 12 J J J (bC cr J J),
  ⟨d3 18 11 20 13 J J J J (br wm ea J (lb (ht J)) (ht J) q_e1),
  ⟨bZ 21 14 J J J (bC ea J J),
  ⟨d3 14 7 22 15 J J J J (aU (r:=xR) (ys:=[e,e1]) (xs:=[.tmp 14,.tmp 22]) wm ea J J J J J ⟨(ht J),(ht J),aS⟩),
  ⟨bZ 23 16 J J J (aB abx (VG _ q_r) ⟨(ht J),aS⟩),
  ⟨bZ 24 17 J J J (vx J),
  aS⟩⟩⟩⟩⟩⟩⟩⟩⟩⟩⟩⟩⟩⟩⟩⟩⟩⟩⟩ ?_
 refine ax<|aw<|aG rfl<|zo rfl (c9 sE lM rfl rfl)<|zo rfl (bC kQ rfl rfl)<|aG rfl<|bB h fun r1 q_r1 h=>zo J (aB XI (Pn _ _ q_r1) ⟨(ht J),(ht J),aS⟩)<|bq J<|bq J<|av<|am<|aL<|aL<|aL ?_;cases so h;exact d8 (ts:=[mK r,iO r1]) (rvs:=[.tmp 4,.tmp 5]) J J ⟨aZ J,aZ J,aS⟩ p7 J J

theorem Zl(b:Nat)(ix:OI)(c:aE)(n:aj){R:(List Int)×Bool}(h:gc c n=some R):dd aQ 204 [tV (aO b 0),tD aF n] (dD b c ix) (fun _:OI=>tT [mK R.1,iO R.2]) (fun _=>(dD b c ix)):=by
 refine dd.of Tryz.func204 J J J fun w0 S0=>?_;refine(show CG _ _ _ [bx (rH bn [(1,aT (ix.h 0).1 (ix.h 0).2 c.kinds.length),(2,aT (ix.h 1).1 (ix.h 1).2 c.first.length)]) 115 b c,dW od 39 (ix.h 0).1 (ix.h 0).2 c.kinds,dW ca 3 (ix.h 1).1 (ix.h 1).2 c.first] _ from ?_);refine aw<|zo J (js J)<|zo J (aM (show aJ _ _ _ xS from kE))<|zo J (jy)<|av<|ah<|bB h fun e q_e h=>bB h fun r q_r h=>?_
 refine da (ts:=[_,_,_,_,_,_,_,_,_,_,_,_,_,_,_,_,_,_,_,_,_]) mixed J J
  ⟨eH 0 J J J (de J),
  ⟨bZ 6 0 J J J (dF (ht J)),
  ⟨bZ 7 1 J J J (jY 1 n8 J J J),
  ⟨bZ 8 2 J J J (dl tI J (.head _) (.tail _ (.head _)) (ht J)),
  ⟨eH 3 J J J (c9 jH dS J J),
  ⟨bZ 10 4 J J J (bC cr J J),
  ⟨d3 9 3 11 5 J J J J (br wm ea J (lb (ht J)) (ht J) q_e),
  ⟨bZ 12 6 J J J (bC ea J J),
  ⟨eH 3 J J J (c9 sE lM J J),
  ⟨bZ 14 8 J J J (bC kQ J J),
  ⟨eH 0 J J J (de J),
  ⟨bZ 16 10 J J J (dF (ht J)),
  ⟨bZ 17 11 J J J (jY 1 n8 J J J),
  ⟨bZ 18 12 J J J (dl tI J (.head _) (.tail _ (.head _)) (ht J)),
  ⟨eH 3 J J J (c9 jH dS J J),
  ⟨bZ 20 14 J J J (bC cr J J),
  ⟨d3 19 13 21 15 J J J J (br wm ea J (lb (ht J)) (ht J) q_e),
  ⟨bZ 22 16 J J J (bC ea J J),
  ⟨d3 15 9 23 17 J J J J (aB XI (Pn _ _ q_r) ⟨(ht J),(ht J),aS⟩),
  ⟨bZ 13 7 J J J (vx J),
  ⟨bZ 24 18 J J J (vx J),
  aS⟩⟩⟩⟩⟩⟩⟩⟩⟩⟩⟩⟩⟩⟩⟩⟩⟩⟩⟩⟩⟩ ?_
 refine ax<|am<|aL<|aL<|aL ?_;cases so h;exact d8 (ts:=[mK e,iO r]) (rvs:=[.tmp 4,.tmp 5]) J J ⟨aZ J,aZ J,aS⟩ p7 J J

theorem Vk(kinds:(List Int))(c:Int){R:Bool}(h:qn kinds c=some R):aW aQ 344 [bN c,bM od kinds] (iO R):=by
 refine aW.of Tryz.func344 J J J fun w0 S0=>aw<|zo J (jy)<|av<|aw<|aG J<|zo J (gx (ht J) hI)<|aG J<|eG J J (fun hg=>de J)<|eG J J (fun hg=>bC ea J J)<|eG J J (fun hg=>cC hX (bG J hg))<|eG J J (fun hg=>ir (bG J hg) (bG J hg))<|zo J (xf J J)<|bq J<|av<|am ?_;cases so h;exact aH J J

theorem VF(l:(List Int))(kinds:(List Int)){R:Bool}(h:sZ l kinds=some R):aW aQ 283 [mK l,mK kinds] (iO R):=by
 refine aW.of Tryz.func283 J J J fun w0 S0=>aw<|zo J (js J)<|zo J (jy)<|av<|aw<|aG J<|zo J ((show bR _ _ _ _ ((dR aQ Kb mA (fun(x:Int)=>(qn kinds) x)))from ig (cts:=[bM od kinds]) (caps:=[.tmp 3]) aba ⟨(ht J),aS⟩ (fun x y h=>Vk _ _ h)))<|bB h fun r q_r h=>zo J (aB PK (Ej _ _ q_r) ⟨(ht J),(ht J),aS⟩)<|zo J (fj (ht J))<|bq J<|av<|am ?_;cases so h;exact aH J J

theorem VE(a1:hU)(kinds:(List Int)){R:Int×Bool}(h:zd a1 kinds=some R):aW aQ 284 [tD fG a1,mK kinds] (tT [bN R.1,iO R.2]):=by
 refine aW.of Tryz.func284 J J J fun w0 S0=>aw<|zo J (js J)<|zo J (cy)<|zo J (jy)<|av<|ah<|aw<|zo J (c9 AG ug J J)<|zo J (bC cr J J)<|zo J (nX J)<|av<|c0 h J (fun h=>?_) (fun h=>?_)
 ·refine ah ?_
  refine da (ts:=[_,_,_,_,_,_,_]) mixed J J
   ⟨eH 2 J J J (c9 CH vU J J),
   ⟨bZ 11 0 J J J (c9 qx mj J J),
   ⟨bZ 12 1 J J J (bC Bf J J),
   ⟨bZ 13 2 J J J (i7 xw J),
   ⟨bZ 14 3 J J J (nX J),
   ⟨Qg J J (cy),
   ⟨bZ 15 4 J J J (vx J),
   aS⟩⟩⟩⟩⟩⟩⟩ ?_
  refine ax<|am<|ae ?_;cases so h;exact cP J J J
 ·refine dP<|aw<|zo J (c9 CH vU J J)<|zo J (bC kQ J J)<|aG J<|bB h fun r q_r h=>zo J (aB Tl (Jk _ _ q_r) ⟨(ht J),(ht J),aS⟩)<|aG J<|zo J (gE J J)<|zo J (gE J J)<|bq J<|bq J<|av<|ah<|aw<|zo J (c9 AG ug J J)<|zo J (bC cr J J)<|av<|ay ?_;refine aw<|zo J (nX J)<|bq J<|av<|c0 h J (fun h=>?_) (fun h=>?_)
  ·refine aw<|aG J<|zo J (nX J)<|zo J (cy)<|bq J<|av<|am ?_;refine aD (ae ?_);cases so h;exact cP J J J
  ·refine aw<|zo J (nX J)<|bq J<|av<|c0 h J (fun h=>?_) (fun h=>?_)
   ·refine aw<|aG J<|zo J (nX J)<|aG J<|dN J J (fun hg=>de J)<|dN J J (fun hg=>dx (bG J hg) hI)<|dN J J (fun hg=>bE (bG J hg))<|wc J J J J (fun hg=>de J)<|wc J J J J (fun hg=>dx (bG J hg) hI)<|dN J J (fun hg=>zb (bG J hg) (fun hb=>(bG J (B3 hg (wK hb)))))<|zo J (vn J J)<|zo J (cy)<|bq J<|av<|am ?_;refine aD (ae ?_);cases so h;exact cP J J J
   ·refine kL (Z:=fun x=>s0 r x=some R) (Of:=fun x=>[]) (Gf:=fun x=>[(6,bN r.1),(7,bN r.2),(41,iO x)]) (fun x h=>?_) (fun K=>?_)
    ·skip
     refine c0 h J (fun h=>?_) (fun h=>?_)
     ·refine aw<|aG J<|aG J<|zo J (nX J)<|bq J<|bq J<|av<|am ?_;refine aD (ae ?_);cases so h;exact cP J J J
     ·refine bA<|ap<|ax<|aw<|zo rfl (cy)<|zo rfl (jy)<|av<|am ?_;cases so h;exact cP J J J
    ·skip
     refine aw<|zo J (nX J)<|bq J<|av<|c0 h J (fun h=>?_) (fun h=>?_)
     ·refine bA ?_;exact cF (K (a1.Tag==(4:Int)) h) (bu J)
     ·refine au<|zo J (nX J)<|bq J<|aP ?_;exact cF (K (a1.Tag==(5:Int)) h) (bu J)

theorem Zk(b:Nat)(ix:OI)(c:aE)(n:aj){R:(List Int)×Bool}(h:gK c n=some R):dd aQ 205 [tV (aO b 0),tD aF n] (dD b c ix) (fun _:OI=>tT [mK R.1,iO R.2]) (fun _=>(dD b c ix)):=by
 refine dd.of Tryz.func205 J J J fun w0 S0=>?_;refine(show CG _ _ _ [bx (rH bn [(1,aT (ix.h 0).1 (ix.h 0).2 c.kinds.length),(2,aT (ix.h 1).1 (ix.h 1).2 c.first.length)]) 115 b c,dW od 39 (ix.h 0).1 (ix.h 0).2 c.kinds,dW ca 3 (ix.h 1).1 (ix.h 1).2 c.first] _ from ?_);refine aw<|zo J (js J)<|zo J (aM (show aJ _ _ _ xS from kE))<|zo J (jy)<|av<|ah<|bB h fun e q_e h=>?_
 refine da (ts:=[_,_,_,_,_,_,_,_,_]) mixed J J
  ⟨eH 0 J J J (de J),
  ⟨bZ 15 0 J J J (dF (ht J)),
  ⟨bZ 16 1 J J J (jY 1 n8 J J J),
  ⟨bZ 17 2 J J J (dl tI J (.head _) (.tail _ (.head _)) (ht J)),
  ⟨eH 3 J J J (c9 jH dS J J),
  ⟨bZ 19 4 J J J (bC cr J J),
  ⟨d3 18 3 20 5 J J J J (br wm ea J (lb (ht J)) (ht J) q_e),
  ⟨bZ 21 6 J J J (bC ea J J),
  ⟨bZ 22 7 J J J (vx J),
  aS⟩⟩⟩⟩⟩⟩⟩⟩⟩ ?_
 refine ax<|aw<|zo rfl (c9 uh m6 rfl rfl)<|zo rfl (bC ea rfl rfl)<|zo rfl (i7 hX rfl)<|zo rfl (mY (ht rfl) hI)<|aG rfl<|dN rfl rfl (fun hg=>c9 rl oB J J)<|dN J J (fun hg=>bI Cl J J (bG J hg))<|dN J J (fun hg=>cC xv (bG J hg))<|dN J J (fun hg=>mY (bG J hg) hI)<|zo J (vn J J)<|aG J<|dN J J (fun hg=>c9 uh m6 J J)<|dN J J (fun hg=>bI ea J J (bG J hg))<|dN J J (fun hg=>cC hX (bG J hg))<|dN J J (fun hg=>c9 rl oB J J)<|dN J J (fun hg=>bI Cl J J (bG J hg))<|dN J J (fun hg=>cC xv (bG J hg))<|dN J J (fun hg=>nY (bG J hg) (bG J hg))<|dN J J (fun hg=>fU (bG J hg) hI)<|zo J (vn J J)<|aG J ?_;refine bB h fun t q_t h=>dN J J (fun hg=>c9 uh m6 J J)<|dN J J (fun hg=>bI ea J J (bG J hg))<|dN J J (fun hg=>de J) ?_
 obtain⟨r,h1t,h0t⟩:=og q_t
 have q_rg:=fun hb=>(h1t hb).1
 refine dN J J (fun hg=>aB abw (VF _ _ (q_rg hg)) ⟨(bG J hg),(bG J hg),aS⟩)<|zo J (eT (ht J) (fun hb=>(bG J hb)) (fun hb=>(h1t hb).2) h0t)<|bq J<|av<|ah<|aw<|aG J<|zo J (fj (ht J))<|av<|c0 h J (fun h=>?_) (fun h=>?_)
 ·refine aw<|zo J (aM (show aJ _ _ _ xS from kE))<|zo J (jy)<|av<|am<|ae<|aL<|aL<|aL ?_;cases so h;exact d8 (ts:=[mK ([]),iO false]) (rvs:=[.tmp 4,.tmp 5]) J J ⟨aZ J,aZ J,aS⟩ p7 J J
 ·refine dP<|aw<|bP false ca 3<|zo J (aM ud)<|av<|ah<|aw<|zo J (c9 uh m6 J J)<|zo J (bC ea J J)<|zo J (i7 hX J)<|zo J (bE hI)<|av<|ay<|ba (k:=52) J fun hN=>bL ?_;refine aR (j8 (Z:=fun ls i out l c1=>(n.Keys.drop i=ls)∧gy n e t ls out=some R) (Of:=fun _ i out l c1=>[fE ca 3 l c1 out,bx (rH bn [(1,aT (ix.h 0).1 (ix.h 0).2 c.kinds.length),(2,aT (ix.h 1).1 (ix.h 1).2 c.first.length)]) 115 b c,dW od 39 (ix.h 0).1 (ix.h 0).2 c.kinds,dW ca 3 (ix.h 1).1 (ix.h 1).2 c.first]) (Gf:=fun _ i out l c1=>[(3,bM aF n),(6,mK e),(7,iO t),(8,sH l c1 out),(52,mK n.Keys),(53,jr n.Keys),(54,bN (i:Int))]) (fun i out l c1 h=>?_) (fun e1 tl ih i out l c1 h=>?_) n.Keys 0 vw none 0 ⟨J,h⟩) (bu J)
  ·obtain⟨hx,h⟩:=h
   refine aA<|aw<|zo J (fF J J)<|av<|ah<|bz (ht J) (dm hx)<|bv ?_;refine ai (ai (aN ?_));refine ax<|ah<|aw<|zo rfl (c9 rl oB rfl rfl)<|zo rfl (bC Cl rfl rfl)<|zo rfl (i7 xv rfl)<|zo rfl (bE hI)<|av<|ay<|ba (k:=67) J fun hN1=>bL ?_;refine aR (uA (Z:=fun ls1 i1 out1 l1 c2 ok=>(n.Aggs.drop i1=ls1)∧fc e ls1 out1 ok=some R) (Of:=fun _ i1 out1 l1 c2 ok=>[fE ca 3 l1 c2 out1,bx (rH bn [(1,aT (ix.h 0).1 (ix.h 0).2 c.kinds.length),(2,aT (ix.h 1).1 (ix.h 1).2 c.first.length)]) 115 b c,dW od 39 (ix.h 0).1 (ix.h 0).2 c.kinds,dW ca 3 (ix.h 1).1 (ix.h 1).2 c.first]) (Gf:=fun _ i1 out1 l1 c2 ok=>[(6,mK e),(7,iO ok),(8,sH l1 c2 out1),(67,bW (fG) n.Aggs),(68,jr n.Aggs),(69,bN (i1:Int))]) (fun i1 out1 l1 c2 ok h=>?_) (fun e2 tl1 ih1 i1 out1 l1 c2 ok h=>?_) n.Aggs 0 out l c1 t ⟨J,h⟩) (bu J)
   ·obtain⟨hx1,h⟩:=h
    refine aA<|aw<|zo J (fF J J)<|av<|ah<|bz (ht J) (dm hx1)<|bv ?_;refine ai (ai (aN ?_));refine ax<|aw<|aG rfl<|aG rfl<|bq rfl<|bq rfl<|av<|am<|jQ<|cG 8 rfl<|cG 88 rfl<|cG 4 rfl<|jR 4 rfl<|bf<|aL<|aL<|aL ?_;cases so h;exact d8 (ts:=[mK out1,iO ok]) (rvs:=[.tmp 4,.tmp 5]) J J ⟨aZ J,aZ J,aS⟩ p7 J J
   ·obtain⟨hx1,h⟩:=h
    refine aA<|aw<|zo J (fF J J)<|av<|ah<|bw (ht J) (dg hx1)<|dP<|ah<|ay<|aw<|zo J (mz xv uE J J J (cT hx1))<|zo J (bC uE J J)<|aX (r:=fG) (x:=X8) uE (fun _=>ED _) J fun b1=>aq uE J an J (ht J) (ht J)<|aV 12 J<|av<|aw<|zo J (bC uE J J) ?_;refine aG J<|bB h fun r1 q_r1 h=>zo J (aB abv (VE _ _ q_r1) ⟨(ht J),(ht J),aS⟩)<|aG J<|zo J (gE J J)<|zo J (gE J J)<|bq J<|bq J<|av<|au<|aG J<|aG J<|zo J (aU (r:=ca) (ys:=[r1.1]) (xs:=[.tmp 80]) hX cr J J J J J ⟨(ht J),aS⟩)<|bB h fun out2 q_out2 h=>db cr J J J J hX J J (ht J) (ht J) q_out2 fun l2 c3=>aG J<|aG J<|dN J J (fun hg=>de J)<|zo J (vn J J)<|bq J<|bq J<|aP<|ap ?_;refine ax<|au<|zo rfl (lT (cx hx1 hN1) rfl)<|aG rfl<|aP ?_;exact bg (aR (ih1 (i1+1) out2 l2 c3 (ok&&r1.2) ⟨cw hx1,h⟩) (bu J))
  ·obtain⟨hx,h⟩:=h
   refine aA<|aw<|zo J (fF J J)<|av<|ah<|bw (ht J) (dg hx)<|dP<|ah<|ay<|aw<|zo J (mz hX cr J J J (cT hx))<|zo J (bC cr J J)<|bq J<|av<|au<|aG J<|aG J<|aG J<|bB h fun e3 q_e3 h=>?_;refine zo J (mz hX cr J J J q_e3)<|zo J (bC cr J J)<|zo J (aU (r:=ca) (ys:=[e3]) (xs:=[.tmp 62]) hX cr J J J J J ⟨(ht J),aS⟩)<|bB h fun out3 q_out3 h=>db cr J J J J hX J J (ht J) (ht J) q_out3 fun l3 c4=>bq J<|aP<|ap<|ax<|au<|zo rfl (lT (cx hx hN) rfl)<|aG rfl<|aP ?_;exact bg (aR (ih (i+1) out3 l3 c4 ⟨cw hx,h⟩) (bu J))

theorem Zj(b:Nat)(ix:OI)(c:aE)(n:aj){R:(List Int)×Bool}(h:fH c n=some R):dd aQ 206 [tV (aO b 0),tD aF n] (dD b c ix) (fun _:OI=>tT [mK R.1,iO R.2]) (fun _=>(dD b c ix)):=by
 refine dd.of Tryz.func206 J J J fun w0 S0=>?_;refine(show CG _ _ _ [bx (rH bn [(1,aT (ix.h 0).1 (ix.h 0).2 c.kinds.length),(2,aT (ix.h 1).1 (ix.h 1).2 c.first.length)]) 115 b c,dW od 39 (ix.h 0).1 (ix.h 0).2 c.kinds,dW ca 3 (ix.h 1).1 (ix.h 1).2 c.first] _ from ?_);refine aw<|zo J (js J)<|zo J (aM (show aJ _ _ _ xS from kE))<|zo J (jy)<|av<|aw<|zo J (c9 rk m5 J J)<|zo J (bC Be J J)<|zo J (i7 xH J)<|zo J (ir (ht J) hI)<|aG J<|dN J J (fun hg=>c9 rk m5 J J)<|dN J J (fun hg=>bI Be J J (bG J hg))<|dN J J (fun hg=>cC xH (bG J hg))<|dN J J (fun hg=>mY (bG J hg) hI)<|zo J (vn J J)<|bq J<|av<|aw ?_;refine bP false ca 3<|zo J (aM ud)<|av<|ah<|aw<|zo J (c9 rk m5 J J)<|zo J (bC Be J J)<|zo J (i7 xH J)<|zo J (bE hI)<|av<|ay<|ba (k:=23) J fun hN=>bL ?_;refine aR (uA (Z:=fun ls i out l c1 ok=>(n.Items.drop i=ls)∧fz c n ls out ok=some R) (Of:=fun _ i out l c1 ok=>[fE ca 3 l c1 out,bx (rH bn [(1,aT (ix.h 0).1 (ix.h 0).2 c.kinds.length),(2,aT (ix.h 1).1 (ix.h 1).2 c.first.length)]) 115 b c,dW od 39 (ix.h 0).1 (ix.h 0).2 c.kinds,dW ca 3 (ix.h 1).1 (ix.h 1).2 c.first]) (Gf:=fun _ i out l c1 ok=>[(0,tV (aO b 0)),(3,bM aF n),(6,iO ok),(7,sH l c1 out),(23,bW (co) n.Items),(24,jr n.Items),(25,bN (i:Int))]) (fun i out l c1 ok h=>?_) (fun e tl ih i out l c1 ok h=>?_) n.Items 0 vw none 0 ((decide ((1:Int)≤(n.Items.length:Int)))&&(decide ((n.Items.length:Int)≤(16:Int)))) ⟨J,h⟩) (bu J)
 ·obtain⟨hx,h⟩:=h
  refine aA<|aw<|zo J (fF J J)<|av<|ah<|bz (ht J) (dm hx)<|bv ?_;refine ai (ai (aN ?_));refine ax<|aw<|aG rfl<|aG rfl<|bq rfl<|bq rfl<|av<|am<|jQ<|cG 7 rfl<|cG 52 rfl<|cG 4 rfl<|jR 4 rfl<|bf<|aL<|aL<|aL ?_;cases so h;exact d8 (ts:=[mK out,iO ok]) (rvs:=[.tmp 4,.tmp 5]) J J ⟨aZ J,aZ J,aS⟩ p7 J J
 ·obtain⟨hx,h⟩:=h
  refine aA<|aw<|zo J (fF J J)<|av<|ah<|bw (ht J) (dg hx)<|dP<|ah<|ay<|aw<|zo J (mz xH kQ J J J (cT hx))<|zo J (bC kQ J J)<|aX (r:=co) (x:=Ap) kQ (fun _=>sL _) J fun b1=>aq kQ J an J (ht J) (ht J)<|aV 9 J<|av<|ah<|bB h fun e1 q_e1 h=>bB h fun r q_r h=>?_
  refine da (ts:=[_,_,_,_,_,_,_,_,_,_,_,_,_,_,_]) mixed J J
   ⟨eH 9 J J J (bC kQ J J),
   ⟨eH 0 J J J (de J),
   ⟨bZ 31 1 J J J (dF (ht J)),
   ⟨bZ 32 2 J J J (jY 1 n8 J J J),
   ⟨bZ 33 3 J J J (dl tI J (.tail _ (.head _)) (.tail _ (.tail _ (.head _))) (ht J)),
   ⟨eH 3 J J J (c9 jH dS J J),
   ⟨bZ 35 5 J J J (bC cr J J),
   ⟨d3 34 4 36 6 J J J J (br wm ea J (lb (ht J)) (ht J) q_e1),
   ⟨bZ 37 7 J J J (bC ea J J),
   ⟨d3 30 0 38 8 J J J J (aB Tl (Jk _ _ q_r) ⟨(ht J),(ht J),aS⟩),
   ⟨bZ 39 9 J J J (de J),
   ⟨bZ 29 10 J J J (gE J J),
   ⟨bZ 29 10 J J J (gE J J),
   ⟨bZ 40 11 J J J (vx J),
   ⟨bZ 41 12 J J J (vx J),
   aS⟩⟩⟩⟩⟩⟩⟩⟩⟩⟩⟩⟩⟩⟩⟩ ?_
  refine ax<|au<|aG rfl<|aG rfl<|zo rfl (aU (r:=ca) (ys:=[r.1]) (xs:=[.tmp 43]) hX cr J J J J J ⟨(ht J),aS⟩)<|bB h fun out1 q_out1 h=>db cr J J J J hX J J (ht J) (ht J) q_out1 fun l1 c2=>aG J<|aG J<|dN J J (fun hg=>de J)<|dN J J (fun hg=>dx (bG J hg) hI)<|zo J (vn J J)<|bq J<|bq J<|aP<|ap<|ax<|au<|zo rfl (lT (cx hx hN) rfl)<|aG rfl<|aP ?_;exact bg (aR (ih (i+1) out1 l1 c2 (ok&&(r.2==(0:Int))) ⟨cw hx,h⟩) (bu J))

theorem Zi(b:Nat)(ix:OI)(c:aE)(n:aj){R:(List Int)×Bool}(h:fd c n=some R):dd aQ 207 [tV (aO b 0),tD aF n] (dD b c ix) (fun _:OI=>tT [mK R.1,iO R.2]) (fun _=>(dD b c ix)):=by
 refine dd.of Tryz.func207 J J J fun w0 S0=>?_;refine(show CG _ _ _ [bx (rH bn [(1,aT (ix.h 0).1 (ix.h 0).2 c.kinds.length),(2,aT (ix.h 1).1 (ix.h 1).2 c.first.length)]) 115 b c,dW od 39 (ix.h 0).1 (ix.h 0).2 c.kinds,dW ca 3 (ix.h 1).1 (ix.h 1).2 c.first] _ from ?_);refine aw<|zo J (js J)<|zo J (aM (show aJ _ _ _ xS from kE))<|zo J (jy)<|av<|ah<|bB h fun e q_e h=>?_
 refine da (ts:=[_,_,_,_,_,_,_,_,_,_]) mixed J J
  ⟨eH 0 J J J (de J),
  ⟨bZ 6 0 J J J (dF (ht J)),
  ⟨bZ 7 1 J J J (jY 1 n8 J J J),
  ⟨bZ 8 2 J J J (dl tI J (.head _) (.tail _ (.head _)) (ht J)),
  ⟨eH 3 J J J (c9 jH dS J J),
  ⟨bZ 10 4 J J J (bC cr J J),
  ⟨d3 9 3 11 5 J J J J (br wm ea J (lb (ht J)) (ht J) q_e),
  ⟨bZ 12 6 J J J (bC ea J J),
  ⟨bZ 13 7 J J J (vx J),
  ⟨Qg J J (jy),
  aS⟩⟩⟩⟩⟩⟩⟩⟩⟩⟩ ?_
 refine ax<|am<|aL<|aL<|aL ?_;cases so h;exact d8 (ts:=[mK e,iO true]) (rvs:=[.tmp 4,.tmp 5]) J J ⟨aZ J,aZ J,aS⟩ p7 J J

theorem Zh(b:Nat)(ix:OI)(c:aE)(n:aj){R:(List Int)×Bool}(h:gI c n=some R):dd aQ 208 [tV (aO b 0),tD aF n] (dD b c ix) (fun _:OI=>tT [mK R.1,iO R.2]) (fun _=>(dD b c ix)):=by
 refine dd.of Tryz.func208 J J J fun w0 S0=>?_;refine(show CG _ _ _ [bx (rH bn [(1,aT (ix.h 0).1 (ix.h 0).2 c.kinds.length),(2,aT (ix.h 1).1 (ix.h 1).2 c.first.length)]) 115 b c,dW od 39 (ix.h 0).1 (ix.h 0).2 c.kinds,dW ca 3 (ix.h 1).1 (ix.h 1).2 c.first] _ from ?_);refine aw<|zo J (js J)<|zo J (aM (show aJ _ _ _ xS from kE))<|zo J (jy)<|av<|ah<|bB h fun e q_e h=>bB h fun e1 q_e1 h=>?_
 refine da (ts:=[_,_,_,_,_,_,_,_,_,_,_,_,_,_,_,_,_,_]) mixed J J
  ⟨eH 0 J J J (de J),
  ⟨bZ 12 0 J J J (dF (ht J)),
  ⟨bZ 13 1 J J J (jY 1 n8 J J J),
  ⟨bZ 14 2 J J J (dl tI J (.head _) (.tail _ (.head _)) (ht J)),
  ⟨eH 3 J J J (c9 jH dS J J),
  ⟨bZ 16 4 J J J (bC cr J J),
  ⟨d3 15 3 17 5 J J J J (br wm ea J (lb (ht J)) (ht J) q_e),
  ⟨bZ 18 6 J J J (bC ea J J),
  ⟨eH 0 J J J (de J),
  ⟨bZ 20 8 J J J (dF (ht J)),
  ⟨bZ 21 9 J J J (jY 1 n8 J J J),
  ⟨bZ 22 10 J J J (dl tI J (.head _) (.tail _ (.head _)) (ht J)),
  ⟨eH 3 J J J (c9 qv kV J J),
  ⟨bZ 24 12 J J J (bC cr J J),
  ⟨d3 23 11 25 13 J J J J (br wm ea J (lb (ht J)) (ht J) q_e1),
  ⟨bZ 26 14 J J J (bC ea J J),
  ⟨bZ 19 7 J J J (vx J),
  ⟨bZ 27 15 J J J (vx J),
  aS⟩⟩⟩⟩⟩⟩⟩⟩⟩⟩⟩⟩⟩⟩⟩⟩⟩⟩ ?_
 refine ax<|ah<|aw<|aG rfl<|zo rfl (i7 hX rfl)<|aG rfl<|zo rfl (i7 hX rfl)<|zo rfl (ft (ht rfl) (ht rfl))<|av<|c0 h rfl (fun h=>?_) (fun h=>?_)
 ·refine aw<|zo J (aM (show aJ _ _ _ xS from kE))<|zo J (jy)<|av<|am<|ae<|aL<|aL<|aL ?_;cases so h;exact d8 (ts:=[mK ([]),iO false]) (rvs:=[.tmp 4,.tmp 5]) J J ⟨aZ J,aZ J,aS⟩ p7 J J
 ·refine dP<|aw<|aG J<|bB h fun r q_r h=>jd Ti (Jg _ q_r) ⟨(ht J),aS⟩ J fun l c1=>bq J<|av<|aw<|zo J (jy)<|av<|ah<|aw<|aG J<|zo J (i7 hX J)<|zo J (bE hI)<|av<|ay ?_;refine ba (k:=35) J fun hN=>bL ?_;refine aR (wd (Z:=fun ls i out ok=>(e1.drop i=ls)∧dG ls i out ok=some R) (Of:=fun _ i out ok=>[fE ca 3 l c1 out,bx (rH bn [(1,aT (ix.h 0).1 (ix.h 0).2 c.kinds.length),(2,aT (ix.h 1).1 (ix.h 1).2 c.first.length)]) 115 b c,dW od 39 (ix.h 0).1 (ix.h 0).2 c.kinds,dW ca 3 (ix.h 1).1 (ix.h 1).2 c.first]) (Gf:=fun _ i out ok=>[(8,sH l c1 out),(9,iO ok),(35,mK e1),(36,jr e1),(37,bN (i:Int))]) (fun i out ok h=>?_) (fun e2 tl ih i out ok h=>?_) e1 0 r true ⟨J,h⟩) (bu J)
  ·obtain⟨hx,h⟩:=h
   refine aA<|aw<|zo J (fF J J)<|av<|ah<|bz (ht J) (dm hx)<|bv ?_;refine ai (ai (aN ?_));refine ax<|aw<|aG rfl<|aG rfl<|bq rfl<|bq rfl<|av<|am<|jQ<|cG 8 rfl<|cG 65 rfl<|cG 4 rfl<|jR 4 rfl<|bf<|aL<|aL<|aL ?_;cases so h;exact d8 (ts:=[mK out,iO ok]) (rvs:=[.tmp 4,.tmp 5]) J J ⟨aZ J,aZ J,aS⟩ p7 J J
  ·obtain⟨hx,h⟩:=h
   refine aA<|aw<|zo J (fF J J)<|av<|ah<|bw (ht J) (dg hx)<|dP<|ah<|ay<|aw<|aG J<|zo J (mz hX cr J J J (cT hx))<|zo J (bC cr J J)<|bq J<|bq J<|av ?_;refine kL (Z:=fun out1=>iJ (dG tl) i e2 ok out1=some R) (Of:=fun out1=>[fE ca 3 l c1 out1,bx (rH bn [(1,aT (ix.h 0).1 (ix.h 0).2 c.kinds.length),(2,aT (ix.h 1).1 (ix.h 1).2 c.first.length)]) 115 b c,dW od 39 (ix.h 0).1 (ix.h 0).2 c.kinds,dW ca 3 (ix.h 1).1 (ix.h 1).2 c.first]) (Gf:=fun out1=>[(8,sH l c1 out1),(9,iO ok),(10,bN (i:Int)),(11,bN e2),(35,mK e1),(36,jr e1),(37,bN (i:Int))]) (fun out1 h=>?_) (fun K=>?_)
   ·skip
    refine au<|aG J<|aG J<|bB h fun t q_t h=>dN J J (fun hg=>de J)<|dN J J (fun hg=>de J) ?_
    obtain⟨e3,h1t,h0t⟩:=og q_t
    have q_e3g:=fun hb=>(h1t hb).1
    refine dN J J (fun hg=>cM hX cr (.head _) (bG J hg) (bG J hg) (q_e3g hg))<|dN J J (fun hg=>gG (r:=ca) (i:=(i:Int)) (foff:=0) cr J J bU J (.head _) (q_e3g hg) (bG J hg))<|dN J J (fun hg=>de J)<|dN J J (fun hg=>dx (bG J hg) (bG J hg))<|dN J J (fun hg=>bE (bG J hg))<|wc J J J J (fun hg=>de J)<|wc J J J J (fun hg=>dx (bG J hg) hI)<|dN J J (fun hg=>zb (bG J hg) (fun hb=>(bG J (B3 hg (wK hb)))))<|zo J (eT (ht J) (fun hb=>(bG J hb)) (fun hb=>(h1t hb).2) h0t)<|bq J<|aP<|ap<|ax<|au<|zo rfl (lT (cx hx hN) rfl)<|aG rfl<|aP ?_;exact bg (aR (ih (i+1) out1 t ⟨cw hx,h⟩) (bu J))
   ·skip
    refine aw<|aG J<|aG J<|bB h fun e4 q_e4 h=>zo J (cM hX cr (.head _) (ht J) (ht J) q_e4)<|zo J (gG (r:=ca) (i:=(i:Int)) (foff:=0) cr J J bU J (.head _) q_e4 (ht J))<|zo J (nX J)<|av<|c0 h J (fun h=>?_) (fun h=>?_)
    ·refine au<|aG J<|aG J<|aG J<|zo J (cM hX cr (.head _) (ht J) (ht J) q_e4)<|bB h fun st q_st h=>tw cr J an J q_e4 (so q_st) (ht J) (ht J)<|iX (mP (so q_st)) 8 J<|iX (mP (so q_st)) 42 J<|iX (mP (so q_st)) 47 J<|aP ?_;exact cF (K st h) (bu J)
    ·refine bA ?_;exact cF (K out h) (bu J)

theorem VW(s:(List fq))(f:(fq→Option Bool)){R:Int}(h:iE s f=some R):aW aQ 229 [bW (fX) s,(dR aQ Qd mA (fun(x:fq)=>f x))] (bN R):=by
 refine aW.of Tryz.func229 J J J fun w0 S0=>aw<|zo J (cy)<|av<|ah<|aw<|aG J<|zo J (i7 DL J)<|zo J (bE hI)<|av<|ay<|ba (k:=6) J fun hN=>bL ?_;refine aR (d7 (Z:=fun ls i=>(s.drop i=ls)∧dJ f ls i=some R) (Of:=fun _ i=>[]) (Gf:=fun _ i=>[(0,bW (fX) s),(1,(dR aQ Qd mA (fun(x:fq)=>f x))),(7,jr s),(8,bN (i:Int))]) (fun i h=>?_) (fun e tl ih i h=>?_) s 0 ⟨J,h⟩) (bu J)
 ·obtain⟨hx,h⟩:=h
  refine aA<|aw<|zo J (fF J J)<|av<|ah<|bz (ht J) (dm hx)<|bv ?_;refine ai (ai (aN ?_));refine ax<|aw<|zo rfl (cy)<|av<|am ?_;cases so h;exact aH J J
 ·obtain⟨hx,h⟩:=h
  refine aA<|aw<|zo J (fF J J)<|av<|ah<|bw (ht J) (dg hx)<|dP<|ah<|ay<|aw<|aG J<|bq J<|av<|aw<|aG J<|aG J<|aG J<|zo J (mz DL Kl J J J (cT hx)) ?_;refine zo J (bC Kl J J)<|bB h fun r q_r h=>zo J (eU (args:=Qd) (res:=Ih) (f:=(fun(x:fq)=>f x)) (x:=((e):fq)) (ht J) q_r ⟨(ht J),aS⟩)<|av<|c0 h J (fun h=>?_) (fun h=>?_)
  ·refine aw<|aG J<|bq J<|av<|am ?_;refine aD (ae (ae (aD (ae ?_))));cases so h;exact aH J J
  ·refine bA<|ap<|ax<|au<|zo rfl (lT (cx hx hN) rfl)<|aG rfl<|aP ?_;exact bg (aR (ih (i+1) ⟨cw hx,h⟩) (bu J))

theorem Pw(s:(List fq))(f:(fq→Option Bool)){R:Bool}(h:dK s f=some R):aW aQ 149 [bW (fX) s,(dR aQ Qd mA (fun(x:fq)=>f x))] (iO R):=by
 refine aW.of Tryz.func149 J J J fun w0 S0=>aw<|zo J (jy)<|av<|aw<|aG J<|aG J<|bB h fun r q_r h=>zo J (aB abO (VW _ _ q_r) ⟨(ht J),(ht J),aS⟩)<|zo J (ir (ht J) hI)<|bq J<|av<|am ?_;cases so h;exact aH J J

end Go.Proofs.YtfhhakidodmdfaaGreatDoor

