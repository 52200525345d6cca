/- cU of this claim: P24. -/
import Derived.Test.YtfhhakidodmdfaaGreatDoorJfT
import Derived.Test.YtfhhakidodmdfaaGreatDoorJfP23
set_option linter.all false
namespace Go.Proofs.YtfhhakidodmdfaaGreatDoor
open Go
set_option maxRecDepth 100000

theorem Y9(l:(List (List ac)))(r:(List ac)){R:Int}(h:ek l r=some R):aW aQ 37 [bW (cR) l,bW (af) r] (bN R):=by
 refine aW.of Tryz.func37 J J J fun w0 S0=>aw<|zo J (cy)<|av<|aw<|zo J (cy)<|av<|ah<|aw<|aG J<|zo J (i7 i9 J)<|zo J (bE hI)<|av<|ay<|ba (k:=8) J fun hN=>bL ?_;refine aR (nE (Z:=fun ls i k=>(l.drop i=ls)∧gA r ls k=some R) (Of:=fun _ i k=>[]) (Gf:=fun _ i k=>[(1,bW (af) r),(5,bN k),(8,bW (cR) l),(9,jr l),(10,bN (i:Int))]) (fun i k h=>?_) (fun e tl ih i k h=>?_) l 0 (0:Int) ⟨J,h⟩) (bu J)
 ·obtain⟨hx,h⟩:=h
  refine aA<|aw<|zo J (fF J J)<|av<|ah<|bz (ht J) (dm hx)<|bv ?_;refine ai (ai (aN ?_));refine ax<|aw<|aG rfl<|bq rfl<|av<|am ?_;cases so h;exact aH J J
 ·obtain⟨hx,h⟩:=h
  refine aA<|aw<|zo J (fF J J)<|av<|ah<|bw (ht J) (dg hx)<|dP<|ah<|ay<|aw<|zo J (mz i9 dy J J J (cT hx))<|zo J (bC dy J J)<|bq J<|av<|aw<|aG J<|aG J<|bB h fun r1 q_r1 h=>?_;refine zo J (aB ZH (NZ _ _ q_r1) ⟨(ht J),(ht J),aS⟩)<|zo J (nX J)<|av<|c0 h J (fun h=>?_) (fun h=>?_)
  ·refine au<|aG J<|zo J (nY (ht J) hI)<|bq J<|aP<|ap<|ax<|au<|zo rfl (lT (cx hx hN) rfl)<|aG rfl<|aP ?_;exact bg (aR (ih (i+1) (IntKind.i64.wrap (k+(1:Int))) ⟨cw hx,h⟩) (bu J))
  ·refine bA<|ap<|ax<|au<|zo rfl (lT (cx hx hN) rfl)<|aG rfl<|aP ?_;exact bg (aR (ih (i+1) k ⟨cw hx,h⟩) (bu J))

theorem YY(n:aj)(l:(List bc)){R:bc×Int}(h:wL n l=some R):aW aQ 96 [tD aF n,bW (bS) l] (tT [tD bS R.1,bN R.2]):=by
 refine aW.of Tryz.func96 J J J fun w0 S0=>aw<|xd (ht J) J fun b=>aX (r:=bS) (x:=wr) hY (fun _=>kO _) J fun b1=>zo J (cy)<|av<|aw<|zo J (jY 1 jH J J J)<|bH<|aq cr J wz J (ht J) hI<|zo J (jY 2 qv J J J)<|aq cr J tK J (ht J) hI<|av<|aw<|bP true aF 71<|aX (r:=lI) (x:=mZ wr (aT none 0 (Ub.length))) hY EB J fun b2=>av<|ah ?_;refine aw<|aG J<|zo J (i7 Tryz.underlying202 J)<|zo J (bE hI)<|av<|ay<|ba (k:=18) J fun hN=>bL<|im<|im<|nV<|nV ?_;refine aR (yO (Z:=fun ls i n1 x out l1 c=>(l.drop i=ls)∧iA ls i n1 x out=some R) (Of:=fun _ i n1 x out l1 c=>[bx aF 71 b n1,bx bS 24 b1 x,bx lI 24 b2 (mZ out (aT l1 c out.Nodes.length)),dW aF 71 l1 c out.Nodes]) (Gf:=fun _ i n1 x out l1 c=>[(2,tV (aO b 0)),(4,tV (aO b1 0)),(6,tV (aO b2 0)),(18,bW (bS) l),(19,jr l),(20,bN (i:Int))]) (fun i n1 x out l1 c h=>?_) (fun e tl ih i n1 x out l1 c h=>?_) l 0 (aj.mk n.Op va va n.Table n.Kinds n.Left n.Cond n.Keys n.Aggs n.Items n.Order n.Limit) wr ({wr with Nodes:=Ub}:bc) none 0 ⟨J,h⟩) (bu J)
 ·obtain⟨hx,h⟩:=h
  refine aA<|aw<|zo J (fF J J)<|av<|ah<|bz (ht J) (dm hx)<|bv ?_;refine ai (ai (aN ?_));refine ax<|ah<|bB h fun r q_r h=>?_
  refine qJ 5 (ts:=[tV (aO b2 0),tO aF l1 c out.Nodes,tD aF n1,tD aF r,bW (aF) ([r])]) mixed J J J
   ⟨eH 6 J J J (jY 0 kW J J J),
   ⟨bZ 66 0 J J J (tf tH oV (.tail _ (.tail _ (.head _))) (.tail _ (.tail _ (.tail _ (.head _)))) J (ht J)),
   ⟨eH 2 J J J (ce fL J J bU (.head _) (ht J)),
   ⟨bZ 68 2 J J J (aB Tx (Js _ _ q_r) ⟨(ht J),hI,aS⟩),
   ⟨bZ 69 3 J J J (aU (r:=aF) (ys:=[r]) (xs:=[.tmp 69]) p6 fL J J J J J ⟨(ht J),aS⟩),
   aS⟩⟩⟩⟩⟩ ?_
  refine kI<|bB h fun l2 q_l2 h=>AQ fL J J J J p6 J J (ht J) (ht J) q_l2 fun l3 c1=>zo J (jY 0 kW J J J)<|kI<|ur tH J (oo _ _ _) J (ht J) (QK (Is (ht J)))<|av<|ah<|aw<|bH<|zo J (wJ (q:=bS) (y:=({out with Nodes:=l2}:bc)) hY J J J J (.tail _ (.head _)) (fun _ _ _ ho h=>sF (Bu ho (.head _)) h) (ht J))<|bB h fun r1 q_r1 h=>zo J (aB WK (Jh _ q_r1) ⟨(ht J),aS⟩)<|aG J<|zo J (gE J J)<|zo J (gE J J)<|bq J<|bq J<|av<|aw ?_;refine aG J<|zo J (s8 J)<|av<|c0 h J (fun h=>?_) (fun h=>?_)
  ·refine aw<|zo J (bY (y:=wr) hY SE kO (J))<|aG J<|kI<|aq hY J an J (ht J) (ht J)<|bq J<|av<|am<|ae<|bj 4 J<|bf<|bf<|bf ?_;cases so h;exact bQ J J ⟨bt hY J J J,aZ J,aS⟩
  ·refine dP<|aw<|zo J (wJ (q:=bS) (y:=({out with Nodes:=l2}:bc)) hY J J J J (.tail _ (.head _)) (fun _ _ _ ho h=>sF (Bu ho (.head _)) h) (ht J))<|kI<|aq hY J an J (ht J) (ht J)<|zo J (cy)<|av<|am<|bj 4 J<|bf<|bf<|bf ?_;cases so h;exact bQ J J ⟨bt hY J J J,aZ J,aS⟩
 ·obtain⟨hx,h⟩:=h
  refine aA<|aw<|zo J (fF J J)<|av<|ah<|bw (ht J) (dg hx)<|dP<|ah<|ay<|aw<|aG J<|zo J (mz Tryz.underlying202 hY J J J (cT hx))<|zo J (bC hY J J)<|aX (r:=bS) (x:=wr) hY (fun _=>kO _) J fun b3=>bq J<|aq hY J an J (ht J) (ht J)<|aV 8 J<|av<|ah ?_;refine aw<|zo J (bC hY J J)<|bB h fun r2 q_r2 h=>zo J (aB WK (Jh _ q_r2) ⟨(ht J),aS⟩)<|aG J<|zo J (gE J J)<|zo J (gE J J)<|bq J<|bq J<|av<|aw<|aG J<|zo J (s8 J)<|av<|c0 h J (fun h=>?_) (fun h=>?_)
  ·refine aw<|zo J (bY (y:=wr) hY SE kO (J))<|aG J<|bH<|aq hY J an J (ht J) (ht J)<|bq J<|av<|am ?_;refine ae (aD (ae (ae (aD (ae ?_)))));refine bj 4 J<|bf<|bf<|bf ?_;cases so h;exact bQ J J ⟨bt hY J J J,aZ J,aS⟩
  ·refine dP<|aw<|zo J (jY 0 kW J J J)<|zo J (tf tH oV (.tail _ (.tail _ (.head _))) (.tail _ (.tail _ (.tail _ (.head _)))) J (ht J))<|zo J (cC p6 (lb (ht J)))<|bq J<|av<|ah<|aw<|zo J (c9 kW iL J J)<|zo J (bC tH J J)<|zo J (i7 p6 J)<|zo J (bE hI)<|av<|ay<|ba (k:=38) J fun hN1=>bL ?_;refine aR (j8 (Z:=fun ls1 i1 out1 l4 c2=>(e.Nodes.drop i1=ls1)∧nM (iA tl) i n1 x out ls1 out1=some R) (Of:=fun _ i1 out1 l4 c2=>[bx aF 71 b n1,bx bS 24 b1 x,bx lI 24 b2 (mZ out1 (aT l4 c2 out1.Nodes.length)),dW aF 71 l4 c2 out1.Nodes]) (Gf:=fun _ i1 out1 l4 c2=>[(2,tV (aO b 0)),(4,tV (aO b1 0)),(6,tV (aO b2 0)),(7,bN (i:Int)),(11,jr out.Nodes),(18,bW (bS) l),(19,jr l),(20,bN (i:Int)),(38,bW (aF) e.Nodes),(39,jr e.Nodes),(40,bN (i1:Int))]) (fun i1 out1 l4 c2 h=>?_) (fun e1 tl1 ih1 i1 out1 l4 c2 h=>?_) e.Nodes 0 out l1 c ⟨J,h⟩) (bu J)
   ·obtain⟨hx1,h⟩:=h
    refine aA<|aw<|zo J (fF J J)<|av<|ah<|bz (ht J) (dm hx1)<|bv ?_;refine ai (ai (aN ?_));refine ax<|aw<|aG rfl<|zo rfl (nX rfl)<|av<|c0 h rfl (fun h=>?_) (fun h=>?_)
    ·refine au<|zo J (jY 0 kW J J J)<|zo J (tf tH oV (.tail _ (.tail _ (.head _))) (.tail _ (.tail _ (.tail _ (.head _)))) J (ht J))<|zo J (cC p6 (lb (ht J)))<|zo J (iq (ht J) hI)<|zo J (jY 1 jH J J J)<|aq cr J wz J (ht J) (ht J)<|aP<|ap<|ax<|au<|zo rfl (lT (cx hx hN) rfl)<|aG rfl<|aP ?_;exact bg (aR (ih (i+1) (aj.mk n1.Op (IntKind.i64.wrap ((out1.Nodes.length:Int)-(1:Int))) n1.B n1.Table n1.Kinds n1.Left n1.Cond n1.Keys n1.Aggs n1.Items n1.Order n1.Limit) x out1 l4 c2 ⟨cw hx,h⟩) (bu J))
    ·refine au<|zo J (jY 0 kW J J J)<|zo J (tf tH oV (.tail _ (.tail _ (.head _))) (.tail _ (.tail _ (.tail _ (.head _)))) J (ht J))<|zo J (cC p6 (lb (ht J)))<|zo J (iq (ht J) hI)<|zo J (jY 2 qv J J J)<|aq cr J tK J (ht J) (ht J)<|aP<|ap<|ax<|au<|zo rfl (lT (cx hx hN) rfl)<|aG rfl<|aP ?_;exact bg (aR (ih (i+1) (aj.mk n1.Op n1.A (IntKind.i64.wrap ((out1.Nodes.length:Int)-(1:Int))) n1.Table n1.Kinds n1.Left n1.Cond n1.Keys n1.Aggs n1.Items n1.Order n1.Limit) x out1 l4 c2 ⟨cw hx,h⟩) (bu J))
   ·obtain⟨hx1,h⟩:=h
    refine aA<|aw<|zo J (fF J J)<|av<|ah<|bw (ht J) (dg hx1)<|dP<|ah<|ay<|aw<|zo J (mz p6 fL J J J (cT hx1))<|zo J (bC fL J J)<|aX (r:=aF) (x:=Id) fL (fun _=>ln _) J fun b4=>aq fL J an J (ht J) (ht J)<|aV 13 J<|av<|bB h fun r3 q_r3 h=>?_
    refine qJ 6 (ts:=[tV (aO b2 0),tO aF l4 c2 out1.Nodes,tD aF e1,jr out.Nodes,tD aF r3,bW (aF) ([r3])]) mixed J J J
     ⟨eH 6 J J J (jY 0 kW J J J),
     ⟨bZ 44 0 J J J (tf tH oV (.tail _ (.tail _ (.head _))) (.tail _ (.tail _ (.tail _ (.head _)))) J (ht J)),
     ⟨eH 13 J J J (bC fL J J),
     ⟨eH 11 J J J (de J),
     ⟨d3 46 2 47 3 J J J J (aB Tx (Js _ _ q_r3) ⟨(ht J),(ht J),aS⟩),
     ⟨bZ 48 4 J J J (aU (r:=aF) (ys:=[r3]) (xs:=[.tmp 48]) p6 fL J J J J J ⟨(ht J),aS⟩),
     aS⟩⟩⟩⟩⟩⟩ ?_
    refine kI<|bB h fun l5 q_l5 h=>AQ fL J J J J p6 J J (ht J) (ht J) q_l5 fun l6 c3=>zo J (jY 0 kW J J J)<|kI<|ur tH J (oo _ _ _) J (ht J) (QK (Is (ht J)))<|aP<|ap<|ax<|au<|zo rfl (lT (cx hx1 hN1) rfl)<|aG rfl<|aP<|bD<|bD<|cD<|cD ?_;exact bg (aR (ih1 (i1+1) ({out1 with Nodes:=l5}:bc) l6 c3 ⟨cw hx1,h⟩) (bu J))

theorem NY(n:aj)(a1:bc){R:bc×Int}(h:rb n a1=some R):aW aQ 39 [tD aF n,tD bS a1] (tT [tD bS R.1,bN R.2]):=by
 refine aW.of Tryz.func39 J J J fun w0 S0=>aw<|zo J (js J)<|zo J (js J)<|aX (r:=bS) (x:=wr) hY (fun _=>kO _) J fun b=>zo J (cy)<|av<|aw<|zo J (bC fL J J)<|zo J (bC hY J J)<|zo J (aU (r:=bS) (ys:=[a1]) (xs:=[.tmp 7]) Tryz.underlying202 hY J J J J J ⟨(ht J),aS⟩)<|bB h fun r q_r h=>zo J (aB ade (YY _ _ q_r) ⟨(ht J),(ht J),aS⟩)<|zo J (gE J J)<|zo J (gE J J)<|aq hY J an J (ht J) (ht J)<|aV 4 J<|bq J<|av<|am ?_;cases so h;exact bQ J J ⟨bt hY J J J,aZ J,aS⟩

theorem aaG(l:bc)(b:dv)(n:aj){R:Bool}(h:n7 l b n=some R):aW aQ 8 [tD bS l,tD jv b,tD aF n] (iO R):=by
 refine aW.of Tryz.func8 J J J fun w0 S0=>aw<|zo J (js J)<|zo J (js J)<|zo J (js J)<|zo J (jy)<|av<|ah<|aw<|bB h fun r q_r h=>zo J (aB adG (Zs q_r) trivial)<|zo J (fj (ht J))<|av<|c0 h J (fun h=>?_) (fun h=>?_)
 ·refine aw<|zo J (jy)<|av<|am<|ae ?_;cases so h;exact aH J J
 ·refine dP<|ah<|aw<|zo J (bC DV J J)<|bB h fun r1 q_r1 h=>zo J (aB adF (Zr _ q_r1) ⟨(ht J),aS⟩)<|aG J<|bB h fun t q_t h=>eG J J (fun hg=>bC hY J J)<|eG J J (fun hg=>bC DV J J) ?_
  obtain⟨r2,h1t,h0t⟩:=og q_t
  have q_r2g:=fun hb=>(h1t hb).1
  refine eG J J (fun hg=>aB adE (Zq _ _ (q_r2g hg)) ⟨(bG J hg),(bG J hg),aS⟩)<|zo J (gZ (ht J) (fun hb=>(bG J (wK hb))) (fun hb=>(h1t hb).2) h0t)<|aG J<|bB h fun t1 q_t1 h=>eG J J (fun hg=>c9 sE lM J J)<|eG J J (fun hg=>bI kQ J J (bG J hg)) ?_
  obtain⟨r3,h1t1,h0t1⟩:=og q_t1
  have q_r3g:=fun hb=>(h1t1 hb).1
  refine eG J J (fun hg=>aB WL (Jn _ (q_r3g hg)) ⟨(bG J hg),aS⟩)<|zo J (gZ (ht J) (fun hb=>(bG J (wK hb))) (fun hb=>(h1t1 hb).2) h0t1)<|aG J<|eG J J (fun hg=>c9 qw lE J J)<|eG J J (fun hg=>bI DU J J (bG J hg))<|eG J J (fun hg=>cC DL (bG J hg))<|eG J J (fun hg=>fU (bG J hg) hI)<|zo J (xf J J)<|av<|c0 h J (fun h=>?_) (fun h=>?_)
  ·refine aw<|zo J (jy)<|av<|am<|ae ?_;cases so h;exact aH J J
  ·refine dP<|aw<|zo J (bC hY J J)<|zo J (bC DV J J)<|bB h fun r4 q_r4 h=>zo J (aB Tv (FT _ _ q_r4) ⟨(ht J),(ht J),aS⟩)<|aG J<|zo J (gE J J)<|zo J (gE J J)<|bq J<|bq J<|av<|ah<|aw<|aG J<|zo J (s8 J)<|aG J<|bB h fun t2 q_t2 h=>eG J J (fun hg=>c9 kW iL J J)<|eG J J (fun hg=>bI tH J J (bG J hg)) ?_;refine eG J J (fun hg=>c9 kW iL J J)<|eG J J (fun hg=>bI tH J J (bG J hg))<|eG J J (fun hg=>cC p6 (bG J hg))<|eG J J (fun hg=>iq (bG J hg) hI) ?_
   obtain⟨e,h1t2,h0t2⟩:=og q_t2
   have q_eg:=fun hb=>(h1t2 hb).1
   refine eG J J (fun hg=>br p6 fL J (bG J hg) (bG J hg) (q_eg hg))<|eG J J (fun hg=>qm yB J oE J (bG J hg))<|eG J J (fun hg=>bI cr J J (bG J hg))<|eG J J (fun hg=>dx (bG J hg) hI)<|zo J (gZ (ht J) (fun hb=>(bG J (wK hb))) (fun hb=>(h1t2 hb).2) h0t2)<|aG J<|eG J J (fun hg=>c9 kW iL J J)<|eG J J (fun hg=>bI tH J J (bG J hg))<|eG J J (fun hg=>cC p6 (bG J hg))<|eG J J (fun hg=>ir (bG J hg) hI)<|zo J (xf J J)<|av<|c0 h J (fun h=>?_) (fun h=>?_)
   ·refine aw<|zo J (jy)<|av<|am<|ae ?_;cases so h;exact aH J J
   ·refine dP<|aw<|zo J (aM (show aJ _ _ _ (Qf)from(zJ adz fun x y h=>Y9 _ _ h)))<|av<|aw<|zo J (c9 sE lM J J)<|zo J (bC kQ J J)<|zo J (bY (y:=(⟨(3:Int),(0:Int),(0:Int),(0:Int),[],false,n.Cond,[],[],[],[],(0:Int)⟩:aj)) fL SD ln (⟨_,_,_,_,_,J,tL,J,hI,⟨_,_,_,_,_,J,wy,J,(ht J),J⟩⟩))<|zo J (bC hY J J)<|bB h fun r5 q_r5 h=>zo J (aB ZG (NY _ _ q_r5) ⟨(ht J),(ht J),aS⟩)<|aG J<|zo J (gE J J)<|zo J (gE J J)<|aX (r:=bS) (x:=wr) hY (fun _=>kO _) J fun b1=>aq hY J an J (ht J) (ht J)<|aV 10 J<|bq J<|av ?_;refine tz (Z:=ij l b n r4=some R) (Of:=[]) (Gf:=[(3,bM bS l),(4,bM jv b),(5,bM aF n),(7,bW (cR) r4.1),(9,Qf)]) (fun h=>?_) (fun K=>?_)
    ·skip
     refine aw<|zo J (bY (y:=(⟨(6:Int),(0:Int),(0:Int),(0:Int),[],false,Ap,[],[],[],[],(0:Int)⟩:aj)) fL SD ln (⟨_,_,_,_,_,J,tL,J,hI,J⟩))<|zo J (bC hY J J)<|bB h fun r6 q_r6 h=>zo J (aB ZG (NY _ _ q_r6) ⟨(ht J),(ht J),aS⟩)<|aG J<|zo J (gE J J)<|zo J (gE J J)<|aX (r:=bS) (x:=wr) hY (fun _=>kO _) J fun b2=>aq hY J an J (ht J) (ht J)<|aV 15 J<|bq J<|av<|aw<|zo J (bC hY J J)<|zo J (bC DV J J)<|bB h fun r7 q_r7 h=>zo J (aB Tv (FT _ _ q_r7) ⟨(ht J),(ht J),aS⟩)<|aG J<|zo J (gE J J)<|zo J (gE J J) ?_;refine bq J<|bq J<|av<|ah<|aw<|aG J<|zo J (s8 J)<|aG J<|eG J J (fun hg=>de J)<|eG J J (fun hg=>ft (bG J hg) hI)<|zo J (xf J J)<|av<|c0 h J (fun h=>?_) (fun h=>?_)
     ·refine aw<|zo J (jy)<|av<|am<|ae ?_;cases so h;exact aH J J
     ·refine dP<|ah<|aw<|aG J<|zo J (i7 i9 J)<|zo J (bE hI)<|av<|ay<|ba (k:=125) J fun hN=>bL ?_;refine aR (d7 (Z:=fun ls i=>(r4.1.drop i=ls)∧ge l b n r4 r7 ls=some R) (Of:=fun _ i=>[]) (Gf:=fun _ i=>[(3,bM bS l),(4,bM jv b),(5,bM aF n),(7,bW (cR) r4.1),(9,Qf),(16,bW (cR) r7.1),(125,bW (cR) r4.1),(126,jr r4.1),(127,bN (i:Int))]) (fun i h=>?_) (fun e1 tl ih i h=>?_) r4.1 0 ⟨J,h⟩) (bu J)
      ·obtain⟨hx,h⟩:=h
       refine aA<|aw<|zo J (fF J J)<|av<|ah<|bz (ht J) (dm hx)<|bv ?_;refine ai (ai (aN ?_));refine ax<|aw<|zo rfl (c9 qw lE rfl rfl)<|zo rfl (bC DU rfl rfl)<|zo rfl (c9 uV oD rfl rfl)<|zo rfl (bC cr rfl rfl)<|zo rfl (bY (y:=(⟨(8:Int),(0:Int),(0:Int),(0:Int),[],false,Ap,[],[],[],n.Order,n.Limit⟩:aj)) fL SD ln (⟨_,_,_,_,_,J,tL,J,hI,⟨_,_,_,_,_,J,yc,J,(ht J),⟨_,_,_,_,_,J,Dj,J,(ht J),J⟩⟩⟩))<|zo J (bC hY J J)<|bB h fun r8 q_r8 h=>zo J (aB ZG (NY _ _ q_r8) ⟨(ht J),(ht J),aS⟩)<|aG J<|zo J (gE J J)<|zo J (gE J J)<|aX (r:=bS) (x:=wr) hY (fun _=>kO _) J fun b3=>aq hY J an J (ht J) (ht J)<|aV 20 J<|bq J<|av<|ah<|aw<|aG J ?_;refine zo J (s8 J)<|av<|c0 h J (fun h=>?_) (fun h=>?_)
       ·refine aw<|aG J<|zo J (i7 i9 J)<|aG J<|zo J (i7 i9 J)<|zo J (mY (ht J) (ht J))<|bq J<|av<|am<|ae ?_;cases so h;exact aH J J
       ·refine dP<|aw<|zo J (bC hY J J)<|zo J (bC DV J J)<|bB h fun r9 q_r9 h=>zo J (aB Tv (FT _ _ q_r9) ⟨(ht J),(ht J),aS⟩)<|aG J<|zo J (gE J J)<|zo J (gE J J)<|bq J<|bq J<|av<|aw<|aG J<|zo J (i7 i9 J)<|bq J<|av ?_;refine kL (Z:=fun most=>jG n r4 r7 r9 most=some R) (Of:=fun most=>[]) (Gf:=fun most=>[(5,bM aF n),(7,bW (cR) r4.1),(9,Qf),(16,bW (cR) r7.1),(17,bN r9.2),(21,bW (cR) r9.1),(22,bN most)]) (fun most h=>?_) (fun K1=>?_)
        ·skip
         refine ah<|aw<|aG J<|zo J (s8 J)<|aG J<|eG J J (fun hg=>de J)<|eG J J (fun hg=>cC i9 (bG J hg))<|eG J J (fun hg=>de J)<|eG J J (fun hg=>ft (bG J hg) (bG J hg))<|zo J (xf J J)<|aG J<|eG J J (fun hg=>de J)<|eG J J (fun hg=>cC i9 (bG J hg))<|eG J J (fun hg=>de J)<|eG J J (fun hg=>cC i9 (bG J hg))<|eG J J (fun hg=>fU (bG J hg) (bG J hg))<|zo J (xf J J)<|av<|c0 h J (fun h=>?_) (fun h=>?_)
         ·refine aw<|zo J (jy)<|av<|am<|ae ?_;cases so h;exact aH J J
         ·refine dP<|ah<|aw<|aG J<|zo J (i7 i9 J)<|zo J (bE hI)<|av<|ay<|ba (k:=184) J fun hN1=>bL ?_;refine aR (d7 (Z:=fun ls1 i1=>(r9.1.drop i1=ls1)∧jF n r4 r9 ls1 i1=some R) (Of:=fun _ i1=>[]) (Gf:=fun _ i1=>[(5,bM aF n),(7,bW (cR) r4.1),(9,Qf),(21,bW (cR) r9.1),(184,bW (cR) r9.1),(185,jr r9.1),(186,bN (i1:Int))]) (fun i1 h=>?_) (fun e2 tl1 ih1 i1 h=>?_) r9.1 0 ⟨J,h⟩) (bu J)
          ·obtain⟨hx1,h⟩:=h
           refine aA<|aw<|zo J (fF J J)<|av<|ah<|bz (ht J) (dm hx1)<|bv ?_;refine ai (ai (aN ?_));refine ax<|aw<|zo rfl (jy)<|av<|am ?_;cases so h;exact aH J J
          ·obtain⟨hx1,h⟩:=h
           refine aA<|aw<|zo J (fF J J)<|av<|ah<|bw (ht J) (dg hx1)<|dP<|ah<|ay<|aw<|aG J<|zo J (mz i9 dy J J J (cT hx1))<|zo J (bC dy J J)<|bq J<|bq J<|av<|ah<|bB h fun r10 q_r10 h=>bB h fun r11 q_r11 h=>?_
           obtain⟨t3,q_t3,h⟩:=bs h
           obtain⟨t4,h1t3,h0t3⟩:=og q_t3
           have q_t4g:=fun hb=>(h1t3 hb).1
           obtain⟨e3,h1t4,h0t4⟩:=og3 q_t4g
           have q_e3g:=fun hb=>(h1t4 hb).1
           obtain⟨r12,h1t4⟩:=Xn (fun hb=>(h1t4 hb).2)
           have q_r12g:=fun hb=>(h1t4 hb).1
           refine da (ts:=[_,_,_,_,_,_,_,_,_,_,_,_,_,_,_,_,_,_,_,_,_,_,_,_]) mixed J J
            ⟨eH 9 J J J (de J),
            ⟨eH 21 J J J (de J),
            ⟨eH 24 J J J (de J),
            ⟨De 191 0 192 1 193 2 J J J J J (eU (args:=Rs) (res:=Gu) (f:=Qe) (x:=((r9.1,e2):(List (List ac))×(List ac))) (ht J) q_r10 ⟨(ht J),(ht J),aS⟩),
            ⟨eH 9 J J J (de J),
            ⟨eH 7 J J J (de J),
            ⟨eH 24 J J J (de J),
            ⟨De 195 4 196 5 197 6 J J J J J (eU (args:=Rs) (res:=Gu) (f:=Qe) (x:=((r4.1,e2):(List (List ac))×(List ac))) (ht J) q_r11 ⟨(ht J),(ht J),aS⟩),
            ⟨d3 194 3 198 7 J J J J (fU (ht J) (ht J)),
            ⟨bZ 199 8 J J J (de J),
            ⟨qN 23 200 9 J J J J (jN J J J J (fun hg=>de J)),
            ⟨k7 201 10 200 9 J J J J (jN J J J J (fun hg=>fU (bG J hg) hI)),
            ⟨k7 202 11 200 9 J J J J (jN J J J J (fun hg=>bE (bG J hg))),
            ⟨qN 24 203 12 J J J J (lX J J J J (fun hg=>de J)),
            ⟨qN 21 203 12 J J J J (lX J J J J (fun hg=>de J)),
            ⟨qN 23 203 12 J J J J (lX J J J J (fun hg=>de J)),
            ⟨k7 206 15 203 12 J J J J (lX J J J J (fun hg=>iq (bG J hg) hI)),
            ⟨uF 205 14 207 16 203 12 J J J J J (lX J J J J (fun hg=>br i9 dy J (bG J hg) (bG J hg) (q_e3g hg))),
            ⟨k7 208 17 203 12 J J J J (lX J J J J (fun hg=>bI dy J J (bG J hg))),
            ⟨qN 5 203 12 J J J J (lX J J J J (fun hg=>c9 qw lE J J)),
            ⟨k7 210 19 203 12 J J J J (lX J J J J (fun hg=>bI DU J J (bG J hg))),
            ⟨⟨[⟨204,_,some 13⟩,⟨209,_,some 18⟩,⟨211,_,some 20⟩,⟨203,_,some 12⟩],_,J,⟨J,J,J,J,aS⟩,J,J,lX J J J J (fun hg=>aB adA (Zb _ _ _ (q_r12g hg)) ⟨(bG J hg),(bG J hg),(bG J hg),aS⟩)⟩,
            ⟨uF 203 12 212 21 200 9 J J J J J (jN J J J J (fun hg=>eT (bG J hg) (fun hb=>(bG J (B3 hg hb))) (fun hb=>(h1t4 (B3 hg hb)).2) (fun hb=>h0t4 hg hb))),
            ⟨d3 200 9 213 22 J J J J (gZ (ht J) (fun hb=>(bG J (wK hb))) (fun hb=>(h1t3 hb).2) h0t3),
            aS⟩⟩⟩⟩⟩⟩⟩⟩⟩⟩⟩⟩⟩⟩⟩⟩⟩⟩⟩⟩⟩⟩⟩⟩ ?_
           refine ax<|c0 h rfl (fun h=>?_) (fun h=>?_)
           ·refine aw<|zo J (jy)<|av<|am ?_;refine aD (ae (ae (aD (ae ?_))));cases so h;exact aH J J
           ·refine bA<|ap<|ax<|au<|zo rfl (lT (cx hx1 hN1) rfl)<|aG rfl<|aP ?_;exact bg (aR (ih1 (i1+1) ⟨cw hx1,h⟩) (bu J))
        ·skip
         refine aw<|zo J (c9 uV oD J J)<|zo J (bC cr J J)<|zo J (ir (ht J) hI)<|av<|c0 h J (fun h=>?_) (fun h=>?_)
         ·refine au<|aG J<|zo J (c9 uV oD J J)<|zo J (bC cr J J)<|zo J (IX (ht J) (ht J))<|bq J<|aP ?_;exact cF (K1 (min (r4.1.length:Int) n.Limit) h) (bu J)
         ·refine bA ?_;exact cF (K1 (r4.1.length:Int) h) (bu J)
      ·obtain⟨hx,h⟩:=h
       refine aA<|aw<|zo J (fF J J)<|av<|ah<|bw (ht J) (dg hx)<|dP<|ah<|ay<|aw<|zo J (mz i9 dy J J J (cT hx))<|zo J (bC dy J J)<|bq J<|av<|aw<|aG J<|aG J<|aG J ?_;refine bB h fun r13 q_r13 h=>zo J (eU (args:=Rs) (res:=Gu) (f:=Qe) (x:=((r7.1,e1):(List (List ac))×(List ac))) (ht J) q_r13 ⟨(ht J),(ht J),aS⟩)<|zo J (s8 J)<|av<|c0 h J (fun h=>?_) (fun h=>?_)
       ·refine aw<|zo J (jy)<|av<|am ?_;refine aD (ae (ae (aD (ae ?_))));cases so h;exact aH J J
       ·refine bA<|ap<|ax<|au<|zo rfl (lT (cx hx hN) rfl)<|aG rfl<|aP ?_;exact bg (aR (ih (i+1) ⟨cw hx,h⟩) (bu J))
    ·skip
     refine aw<|zo J (bC hY J J)<|zo J (bC DV J J)<|bB h fun r14 q_r14 h=>zo J (aB Tv (FT _ _ q_r14) ⟨(ht J),(ht J),aS⟩)<|aG J<|zo J (gE J J)<|zo J (gE J J)<|bq J<|bq J<|av<|aw<|aG J<|zo J (nX J)<|aG J<|dN J J (fun hg=>de J)<|dN J J (fun hg=>dx (bG J hg) hI)<|zo J (vn J J)<|av<|c0 h J (fun h=>?_) (fun h=>?_)
     ·refine aw<|aG J<|zo J (i7 i9 J)<|zo J (bE hI)<|av<|ay<|ba (k:=91) J fun hN2=>bL ?_;refine aR (d7 (Z:=fun ls2 i2=>(r14.1.drop i2=ls2)∧jE l b n r4 r14 ls2=some R) (Of:=fun _ i2=>[]) (Gf:=fun _ i2=>[(3,bM bS l),(4,bM jv b),(5,bM aF n),(7,bW (cR) r4.1),(9,Qf),(11,bW (cR) r14.1),(91,bW (cR) r14.1),(92,jr r14.1),(93,bN (i2:Int))]) (fun i2 h=>?_) (fun e4 tl2 ih2 i2 h=>?_) r14.1 0 ⟨J,h⟩) (bu J)
      ·obtain⟨hx2,h⟩:=h
       refine aA<|aw<|zo J (fF J J)<|av<|ah<|bz (ht J) (dm hx2)<|bv ?_;refine ai (ai (aN ?_));exact cF (K h) (bu J)
      ·obtain⟨hx2,h⟩:=h
       refine aA<|aw<|zo J (fF J J)<|av<|ah<|bw (ht J) (dg hx2)<|dP<|ah<|ay<|aw<|zo J (mz i9 dy J J J (cT hx2))<|zo J (bC dy J J)<|bq J<|av<|aw<|aG J<|aG J<|aG J ?_;refine bB h fun r15 q_r15 h=>zo J (eU (args:=Rs) (res:=Gu) (f:=Qe) (x:=((r14.1,e4):(List (List ac))×(List ac))) (ht J) q_r15 ⟨(ht J),(ht J),aS⟩)<|aG J<|aG J<|aG J<|bB h fun r16 q_r16 h=>zo J (eU (args:=Rs) (res:=Gu) (f:=Qe) (x:=((r4.1,e4):(List (List ac))×(List ac))) (ht J) q_r16 ⟨(ht J),(ht J),aS⟩)<|zo J (ft (ht J) (ht J))<|av<|c0 h J (fun h=>?_) (fun h=>?_)
       ·refine aw<|zo J (jy)<|av<|am ?_;refine aD (ae (ae (aD (ae ?_))));cases so h;exact aH J J
       ·refine bA<|ap<|ax<|au<|zo rfl (lT (cx hx2 hN2) rfl)<|aG rfl<|aP ?_;exact bg (aR (ih2 (i2+1) ⟨cw hx2,h⟩) (bu J))
     ·refine bA ?_;exact cF (K h) (bu J)

end Go.Proofs.YtfhhakidodmdfaaGreatDoor

