/- cU of this claim: P23. -/
import Derived.Test.YtfhhakidodmdfaaGreatDoorJfT
import Derived.Test.YtfhhakidodmdfaaGreatDoorJfP22
set_option linter.all false
namespace Go.Proofs.YtfhhakidodmdfaaGreatDoor
open Go
set_option maxRecDepth 100000

theorem Wk(s:(List (List ac)))(f:((List ac)→Option Bool)){R:Int}(h:iD s f=some R):aW aQ 151 [bW (cR) s,(dR aQ Ud mA (fun(x:(List ac))=>f x))] (bN R):=by
 refine aW.of Tryz.func151 J J J fun w0 S0=>aw<|zo J (cy)<|av<|ah<|aw<|aG J<|zo J (i7 i9 J)<|zo J (bE hI)<|av<|ay<|ba (k:=6) J fun hN=>bL ?_;refine aR (d7 (Z:=fun ls i=>(s.drop i=ls)∧dI f ls i=some R) (Of:=fun _ i=>[]) (Gf:=fun _ i=>[(0,bW (cR) s),(1,(dR aQ Ud mA (fun(x:(List ac))=>f x))),(7,jr s),(8,bN (i:Int))]) (fun i h=>?_) (fun e tl ih i h=>?_) s 0 ⟨J,h⟩) (bu J)
 ·obtain⟨hx,h⟩:=h
  refine aA<|aw<|zo J (fF J J)<|av<|ah<|bz (ht J) (dm hx)<|bv ?_;refine ai (ai (aN ?_));refine ax<|aw<|zo rfl (cy)<|av<|am ?_;cases so h;exact aH J J
 ·obtain⟨hx,h⟩:=h
  refine aA<|aw<|zo J (fF J J)<|av<|ah<|bw (ht J) (dg hx)<|dP<|ah<|ay<|aw<|aG J<|bq J<|av<|aw<|aG J<|aG J<|aG J<|zo J (mz i9 dy J J J (cT hx)) ?_;refine zo J (bC dy J J)<|bB h fun r q_r h=>zo J (eU (args:=(fun(x:(List ac))=>[tD cR x])) (res:=Ih) (f:=(fun(x:(List ac))=>f x)) (x:=((e):(List ac))) (ht J) q_r ⟨(ht J),aS⟩)<|av<|c0 h J (fun h=>?_) (fun h=>?_)
  ·refine aw<|aG J<|bq J<|av<|am ?_;refine aD (ae (ae (aD (ae ?_))));cases so h;exact aH J J
  ·refine bA<|ap<|ax<|au<|zo rfl (lT (cx hx hN) rfl)<|aG rfl<|aP ?_;exact bg (aR (ih (i+1) ⟨cw hx,h⟩) (bu J))

theorem Y0(s:(List (List ac)))(f:((List ac)→Option Bool)){R:Bool}(h:eI s f=some R):aW aQ 85 [bW (cR) s,(dR aQ Ud mA (fun(x:(List ac))=>f x))] (iO R):=by
 refine aW.of Tryz.func85 J J J fun w0 S0=>aw<|zo J (jy)<|av<|aw<|aG J<|aG J<|bB h fun r q_r h=>zo J (aB acs (Wk _ _ q_r) ⟨(ht J),(ht J),aS⟩)<|zo J (ir (ht J) hI)<|bq J<|av<|am ?_;cases so h;exact aH J J

theorem Wt(r:(List ac)){R:Int}(h:y4 r=some R):aW aQ 128 [bW (af) r] (bN R):=by
 refine aW.of Tryz.func128 J J J fun w0 S0=>aw<|zo J (cy)<|av<|ah<|aw<|aG J<|bB h fun r1 q_r1 h=>zo J (aB WJ (Jf _ q_r1) ⟨(ht J),aS⟩)<|zo J (fj (ht J))<|av<|c0 h J (fun h=>?_) (fun h=>?_)
 ·refine aw<|zo J (cy)<|av<|am<|ae ?_;cases so h;exact aH J J
 ·refine dP<|aw<|zo J (cy)<|av<|am ?_;cases so h;exact aH J J

theorem Wu(r:(List ac)){R:Bool}(h:mq r=some R):aW aQ 127 [bW (af) r] (iO R):=by
 refine aW.of Tryz.func127 J J J fun w0 S0=>aw<|zo J (jy)<|av<|aw<|aG J<|bB h fun r1 q_r1 h=>zo J (aB acB (Wt _ q_r1) ⟨(ht J),aS⟩)<|zo J (s8 J)<|bq J<|av<|am ?_;cases so h;exact aH J J

theorem Y2(rows:(List (List ac))){R:Bool}(h:qA rows=some R):aW aQ 74 [bW (cR) rows] (iO R):=by
 refine aW.of Tryz.func74 J J J fun w0 S0=>aw<|zo J (jy)<|av<|aw<|zo J (aM (show aJ _ _ _ ((dR aQ Ud mA (fun(x:(List ac))=>mq x)))from(zJ acC fun x y h=>Wu _ h)))<|av<|aw<|aG J<|zo J (i7 i9 J)<|zo J (mY (ht J) hI)<|aG J<|bB h fun t q_t h=>dN J J (fun hg=>de J)<|dN J J (fun hg=>de J) ?_
 obtain⟨r,h1t,h0t⟩:=og q_t
 have q_rg:=fun hb=>(h1t hb).1
 refine dN J J (fun hg=>aB adi (Y0 _ _ (q_rg hg)) ⟨(bG J hg),(bG J hg),aS⟩)<|dN J J (fun hg=>fj (bG J hg))<|zo J (eT (ht J) (fun hb=>(bG J hb)) (fun hb=>(h1t hb).2) h0t)<|bq J<|av<|am ?_;cases so h;exact aH J J

theorem Wl(r:(List ac))(o:fq){R:Bool}(h:s4 r o=some R):aW aQ 150 [tD fX o,bM cR r] (iO R):=by
 refine aW.of Tryz.func150 J J J fun w0 S0=>aw<|zo J (js J)<|zo J (jy)<|av<|aw<|zo J (c9 CF vT J J)<|zo J (bC cr J J)<|zo J (gx (ht J) hI)<|aG J<|eG J J (fun hg=>c9 CF vT J J)<|eG J J (fun hg=>bI cr J J (bG J hg))<|eG J J (fun hg=>bC dy J J)<|eG J J (fun hg=>cC jf (bG J hg))<|eG J J (fun hg=>ir (bG J hg) (bG J hg))<|zo J (xf J J)<|bq J<|av<|am ?_;cases so h;exact aH J J

theorem SO(r:(List ac))(order:(List fq)){R:Bool}(h:ul r order=some R):aW aQ 84 [bW (af) r,bW (fX) order] (iO R):=by
 refine aW.of Tryz.func84 J J J fun w0 S0=>aw<|zo J (js J)<|zo J (jy)<|av<|aw<|aG J<|zo J ((show bR _ _ _ _ ((dR aQ Qd mA (fun(x:fq)=>(s4 r) x)))from ig (cts:=[bM cR r]) (caps:=[.tmp 2]) act ⟨(ht J),aS⟩ (fun x y h=>Wl _ _ h)))<|bB h fun r1 q_r1 h=>zo J (aB XU (Pw _ _ q_r1) ⟨(ht J),(ht J),aS⟩)<|zo J (fj (ht J))<|bq J<|av<|am ?_;cases so h;exact aH J J

theorem Zb(a1:(List ac))(b:(List ac))(order:(List fq)){R:Bool}(h:qC a1 b order=some R):aW aQ 33 [bW (af) a1,bW (af) b,bW (fX) order] (iO R):=by
 refine aW.of Tryz.func33 J J J fun w0 S0=>aw<|zo J (jy)<|av<|ah<|aw<|aG J<|aG J<|zo J (aU (r:=cR) (ys:=[a1,b]) (xs:=[.tmp 7,.tmp 8]) i9 dy J J J J J ⟨(ht J),(ht J),aS⟩)<|bB h fun r q_r h=>zo J (aB adk (Y2 _ q_r) ⟨(ht J),aS⟩)<|zo J (fj (ht J))<|aG J<|bB h fun t q_t h=>eG J J (fun hg=>de J)<|eG J J (fun hg=>de J) ?_
 obtain⟨r1,h1t,h0t⟩:=og q_t
 have q_r1g:=fun hb=>(h1t hb).1
 refine eG J J (fun hg=>aB aa2 (SO _ _ (q_r1g hg)) ⟨(bG J hg),(bG J hg),aS⟩)<|eG J J (fun hg=>fj (bG J hg))<|zo J (gZ (ht J) (fun hb=>(bG J (wK hb))) (fun hb=>(h1t hb).2) h0t)<|aG J<|bB h fun t1 q_t1 h=>eG J J (fun hg=>de J)<|eG J J (fun hg=>de J) ?_
 obtain⟨r2,h1t1,h0t1⟩:=og q_t1
 have q_r2g:=fun hb=>(h1t1 hb).1
 refine eG J J (fun hg=>aB aa2 (SO _ _ (q_r2g hg)) ⟨(bG J hg),(bG J hg),aS⟩)<|eG J J (fun hg=>fj (bG J hg))<|zo J (gZ (ht J) (fun hb=>(bG J (wK hb))) (fun hb=>(h1t1 hb).2) h0t1)<|av<|c0 h J (fun h=>?_) (fun h=>?_)
 ·refine aw<|zo J (jy)<|av<|am<|ae ?_;cases so h;exact aH J J
 ·refine dP<|aw<|aG J<|bB h fun r3 q_r3 h=>zo J (aB aa1 (SN _ q_r3) ⟨(ht J),aS⟩)<|aG J<|aG J<|bB h fun r4 q_r4 h=>zo J (eU (args:=Uh) (res:=Gu) (f:=(fun(x:(List ac)×(List ac))=>r3 x.1 x.2)) (x:=((a1,b):(List ac)×(List ac))) (ht J) q_r4 ⟨(ht J),(ht J),aS⟩)<|bB h fun r5 q_r5 h=>zo J (aB ZD (NV _ _ q_r5) ⟨(ht J),hI,aS⟩)<|zo J (gx (ht J) hI)<|bq J<|av<|am ?_;cases so h;exact aH J J

end Go.Proofs.YtfhhakidodmdfaaGreatDoor

