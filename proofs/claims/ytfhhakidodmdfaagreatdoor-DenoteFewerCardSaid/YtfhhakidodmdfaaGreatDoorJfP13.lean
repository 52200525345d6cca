/- cU of this claim: P13. -/
import Derived.Test.YtfhhakidodmdfaaGreatDoorJfT
import Derived.Test.YtfhhakidodmdfaaGreatDoorJfP12
set_option linter.all false
namespace Go.Proofs.YtfhhakidodmdfaaGreatDoor
open Go
set_option maxRecDepth 100000

theorem Y8{R:aj}(h:FE=some R):aW aQ 46 [] (tD aF R):=by
 refine aW.of Tryz.func46 J J J fun w0 S0=>aw<|aX (r:=aF) (x:=Id) fL (fun _=>ln _) J fun b=>av<|aw<|zo J (aU (r:=ca) (ys:=[(2:Int)]) (xs:=[.const (.int .i64 (2))]) hX cr J J J J J ⟨hI,aS⟩)<|zo J (bY (y:=(⟨(1:Int),va,va,(0:Int),[(2:Int)],false,Ap,[],[],[],[],(0:Int)⟩:aj)) fL SD ln (⟨_,_,_,_,_,J,tL,J,hI,⟨_,_,_,_,_,J,wz,J,hI,⟨_,_,_,_,_,J,tK,J,hI,⟨_,_,_,_,_,J,Aw,J,(ht J),J⟩⟩⟩⟩))<|aq fL J an J (ht J) (ht J)<|aV 0 J<|av<|am ?_;cases so h;exact je J fL J J J

theorem Y7(k:Int){R:bJ}(h:HA k=some R):aW aQ 47 [bN k] (tD co R):=by
 refine aW.of Tryz.func47 J J J fun w0 S0=>aw<|aX (r:=co) (x:=Ap) kQ (fun _=>sL _) J fun b=>av<|aw<|aG J<|zo J (bY (y:=(⟨(2:Int),va,va,k,iy⟩:bp)) p8 ac2 vv (⟨_,_,_,_,_,J,MZ,J,hI,⟨_,_,_,_,_,J,MY,J,hI,⟨_,_,_,_,_,J,MX,J,hI,⟨_,_,_,_,_,J,MW,J,(ht J),J⟩⟩⟩⟩))<|zo J (aU (r:=bO) (ys:=[(⟨(2:Int),va,va,k,iy⟩:bp)]) (xs:=[.tmp 4]) xw p8 J J J J J ⟨(ht J),aS⟩)<|zo J (bY (y:=(⟨[(⟨(2:Int),va,va,k,iy⟩:bp)]⟩:bJ)) kQ YR sL (⟨_,_,_,_,_,J,yX,J,(ht J),J⟩))<|aq kQ J an J (ht J) (ht J)<|aV 2 J<|av<|am ?_;cases so h;exact je J kQ J J J

theorem LM(k:Int){R:(List ac)}(h:I3 k=some R):gp aQ 101 [bN k] false af 46 R:=by
 refine gp.of Tryz.func101 J J J fun w0 S0=>aw<|bP false af 46<|zo J (aM ud)<|av<|aw<|aG J<|zo J (bY (y:=(⟨(2:Int),k,(0:Int),[]⟩:ac)) aI qO bk (⟨_,_,_,_,_,J,oq,J,hI,⟨_,_,_,_,_,J,pC,J,(ht J),J⟩⟩))<|ky (r:=af) (ys:=[(⟨(2:Int),k,(0:Int),[]⟩:ac)]) (xs:=[.tmp 4]) jf aI J J J J J ⟨(ht J),aS⟩ J fun l c=>bq J<|av<|am ?_;cases so h;exact gC J J
theorem Y6{R:dv}(h:Dp=some R):aW aQ 48 [] (tD jv R):=by
 refine aW.of Tryz.func48 J J J fun w0 S0=>aw<|aX (r:=jv) (x:=(⟨[]⟩:dv)) DV (fun _=>Ic _) J fun b=>av<|aw<|bB h fun r q_r h=>jd XY (LM _ q_r) ⟨hI,aS⟩ J fun l c=>bB h fun r1 q_r1 h=>jd XY (LM _ q_r1) ⟨hI,aS⟩ J fun l1 c1=>zo J (bY (y:=iy) aI qO bk (J))<|zo J (aU (r:=af) (ys:=[iy]) (xs:=[.tmp 3]) jf aI J J J J J ⟨(ht J),aS⟩)<|bH<|kJ<|jM 1 J<|bH<|kJ<|jM 2 J<|zo J (aU (r:=cR) (ys:=[r,r1,[iy]]) (xs:=[.tmp 1,.tmp 2,.tmp 4]) i9 dy J J J J J ⟨(lb (ht J)),(lb (ht J)),(ht J),aS⟩)<|zo J (aU (r:=dU) (ys:=[[r,r1,[iy]]]) (xs:=[.tmp 5]) o3 gU J J J J J ⟨(ht J),aS⟩)<|zo J (bY (y:=(⟨[[r,r1,[iy]]]⟩:dv)) DV ac3 Ic (⟨_,_,_,_,_,J,Qq,J,(ht J),J⟩))<|il ?_;refine aq DV J an J (ht J) (ht J)<|aV 0 J<|av<|am<|bf<|bf ?_;cases so h;exact je J DV J J J

theorem Zs{R:Bool}(h:uQ=some R):aW aQ 11 [] (iO R):=by
 refine aW.of Tryz.func11 J J J fun w0 S0=>aw<|zo J (jy)<|av<|aw<|bB h fun r q_r h=>zo J (aB ady (Y8 q_r) trivial)<|zo J (bY (y:=Rq) uE aaD ED (⟨_,_,_,_,_,J,Kw,J,hI,J⟩))<|bB h fun r1 q_r1 h=>zo J (aB adx (Y7 _ q_r1) ⟨hI,aS⟩)<|zo J (bY (y:=(⟨(3:Int),r1⟩:hU)) uE aaD ED (⟨_,_,_,_,_,J,Kw,J,hI,⟨_,_,_,_,_,J,Kv,J,(ht J),J⟩⟩))<|zo J (aU (r:=fG) (ys:=[Rq,(⟨(3:Int),r1⟩:hU)]) (xs:=[.tmp 5,.tmp 7]) xv uE J J J J J ⟨(ht J),(ht J),aS⟩)<|zo J (bY (y:=(⟨(4:Int),(0:Int),va,(0:Int),[],false,Ap,[],[Rq,(⟨(3:Int),r1⟩:hU)],[],[],(0:Int)⟩:aj)) fL SD ln (⟨_,_,_,_,_,J,tL,J,hI,⟨_,_,_,_,_,J,tK,J,hI,⟨_,_,_,_,_,J,EU,J,(ht J),J⟩⟩⟩))<|zo J (aU (r:=aF) (ys:=[r,(⟨(4:Int),(0:Int),va,(0:Int),[],false,Ap,[],[Rq,(⟨(3:Int),r1⟩:hU)],[],[],(0:Int)⟩:aj)]) (xs:=[.tmp 4,.tmp 9]) p6 fL J J J J J ⟨(ht J),(ht J),aS⟩)<|zo J (bY (y:=(⟨[r,(⟨(4:Int),(0:Int),va,(0:Int),[],false,Ap,[],[Rq,(⟨(3:Int),r1⟩:hU)],[],[],(0:Int)⟩:aj)]⟩:bc)) hY SE kO (⟨_,_,_,_,_,J,MP,J,(ht J),J⟩))<|aX (r:=bS) (x:=wr) hY (fun _=>kO _) J fun b=>aq hY J an J (ht J) (ht J)<|aV 1 J<|av<|ah ?_;refine bB h fun r2 q_r2 h=>bB h fun r3 q_r3 h=>?_
 refine da (ts:=[_,_,_,_,_,_,_,_]) mixed J J
  ⟨eH 1 J J J (bC hY J J),
  ⟨Qg J J (aB adw (Y6 q_r2) trivial),
  ⟨d3 13 0 14 1 J J J J (aB Tv (FT _ _ q_r3) ⟨(ht J),(ht J),aS⟩),
  ⟨bZ 15 2 J J J (de J),
  ⟨bZ 12 3 J J J (gE J J),
  ⟨bZ 12 3 J J J (gE J J),
  ⟨bZ 16 4 J J J (vx J),
  ⟨bZ 17 5 J J J (vx J),
  aS⟩⟩⟩⟩⟩⟩⟩⟩ ?_
 refine ax<|aw<|aG rfl<|zo rfl (nX rfl)<|aG rfl<|dN rfl rfl (fun hg=>de J)<|dN J J (fun hg=>cC i9 (bG J hg))<|dN J J (fun hg=>dx (bG J hg) hI)<|zo J (vn J J)<|aG J<|bB h fun t q_t h=>dN J J (fun hg=>de J) ?_
 obtain⟨e,h1t,h0t⟩:=og q_t
 have q_eg:=fun hb=>(h1t hb).1
 refine dN J J (fun hg=>br i9 dy J (bG J hg) hI (q_eg hg))<|dN J J (fun hg=>bI dy J J (bG J hg))<|dN J J (fun hg=>cC jf (bG J hg))<|dN J J (fun hg=>dx (bG J hg) hI)<|zo J (eT (ht J) (fun hb=>(bG J hb)) (fun hb=>(h1t hb).2) h0t)<|aG J<|bB h fun t1 q_t1 h=>dN J J (fun hg=>de J) ?_
 obtain⟨e1,h1t1,h0t1⟩:=og q_t1
 have q_e1g:=fun hb=>(h1t1 hb).1
 refine dN J J (fun hg=>br i9 dy J (bG J hg) hI (q_e1g hg))<|dN J J (fun hg=>bI dy J J (bG J hg)) ?_
 obtain⟨e2,h1t1⟩:=Xn (fun hb=>(h1t1 hb).2)
 have q_e2g:=fun hb=>(h1t1 hb).1
 refine dN J J (fun hg=>br jf aI J (bG J hg) hI (q_e2g hg))<|dN J J (fun hg=>qm ml J fI J (bG J hg))<|dN J J (fun hg=>bI Gx J J (bG J hg))<|dN J J (fun hg=>dx (bG J hg) hI)<|zo J (eT (ht J) (fun hb=>(bG J hb)) (fun hb=>(h1t1 hb).2) h0t1)<|aG J<|bB h fun t2 q_t2 h=>dN J J (fun hg=>de J) ?_
 obtain⟨e3,h1t2,h0t2⟩:=og q_t2
 have q_e3g:=fun hb=>(h1t2 hb).1
 refine dN J J (fun hg=>br i9 dy J (bG J hg) hI (q_e3g hg))<|dN J J (fun hg=>bI dy J J (bG J hg)) ?_
 obtain⟨e4,h1t2⟩:=Xn (fun hb=>(h1t2 hb).2)
 have q_e4g:=fun hb=>(h1t2 hb).1
 refine dN J J (fun hg=>br jf aI J (bG J hg) hI (q_e4g hg))<|dN J J (fun hg=>qm ml J fI J (bG J hg))<|dN J J (fun hg=>bI Gx J J (bG J hg))<|dN J J (fun hg=>dx (bG J hg) hI)<|zo J (eT (ht J) (fun hb=>(bG J hb)) (fun hb=>(h1t2 hb).2) h0t2)<|bq J<|av<|am ?_;cases so h;exact aH J J

theorem Zd(l:(List (List ac)))(most:Int){R:Bool}(h:qq l most=some R):aW aQ 24 [bW (cR) l,bN most] (iO R):=by
 refine aW.of Tryz.func24 J J J fun w0 S0=>aw<|zo J (jy)<|av<|ah<|aw<|aG J<|zo J (i7 i9 J)<|aG J<|zo J (fU (ht J) (ht J))<|av<|c0 h J (fun h=>?_) (fun h=>?_)
 ·refine aw<|zo J (jy)<|av<|am<|ae ?_;cases so h;exact aH J J
 ·refine dP<|ah<|aw<|aG J<|zo J (i7 i9 J)<|zo J (bE hI)<|av<|ay<|ba (k:=13) J fun hN=>bL ?_;refine aR (d7 (Z:=fun ls i=>(l.drop i=ls)∧iK ls=some R) (Of:=fun _ i=>[]) (Gf:=fun _ i=>[(13,bW (cR) l),(14,jr l),(15,bN (i:Int))]) (fun i h=>?_) (fun e tl ih i h=>?_) l 0 ⟨J,h⟩) (bu J)
  ·obtain⟨hx,h⟩:=h
   refine aA<|aw<|zo J (fF J J)<|av<|ah<|bz (ht J) (dm hx)<|bv ?_;refine ai (ai (aN ?_));refine ax<|aw<|zo rfl (jy)<|av<|am ?_;cases so h;exact aH J J
  ·obtain⟨hx,h⟩:=h
   refine aA<|aw<|zo J (fF J J)<|av<|ah<|bw (ht J) (dg hx)<|dP<|ah<|ay<|aw<|zo J (mz i9 dy J J J (cT hx))<|zo J (bC dy J J)<|bq J<|av<|ah<|aw<|aG J<|zo J (i7 jf J) ?_;refine zo J (fU (ht J) hI)<|av<|c0 h J (fun h=>?_) (fun h=>?_)
   ·refine aw<|zo J (jy)<|av<|am ?_;refine ae (aD (ae (ae (aD (ae ?_)))));cases so h;exact aH J J
   ·refine dP<|aw<|aG J<|zo J (i7 jf J)<|zo J (bE hI)<|av<|ay<|ba (k:=22) J fun hN1=>bL ?_;refine aR (d7 (Z:=fun ls1 i1=>(e.drop i1=ls1)∧lB (iK tl) ls1=some R) (Of:=fun _ i1=>[]) (Gf:=fun _ i1=>[(13,bW (cR) l),(14,jr l),(15,bN (i:Int)),(22,bW (af) e),(23,jr e),(24,bN (i1:Int))]) (fun i1 h=>?_) (fun e1 tl1 ih1 i1 h=>?_) e 0 ⟨J,h⟩) (bu J)
    ·obtain⟨hx1,h⟩:=h
     refine aA<|aw<|zo J (fF J J)<|av<|ah<|bz (ht J) (dm hx1)<|bv ?_;refine ai (ai (aN ?_));refine ap<|ax<|au<|zo rfl (lT (cx hx hN) rfl)<|aG rfl<|aP ?_;exact bg (aR (ih (i+1) ⟨cw hx,h⟩) (bu J))
    ·obtain⟨hx1,h⟩:=h
     refine aA<|aw<|zo J (fF J J)<|av<|ah<|bw (ht J) (dg hx1)<|dP<|ah<|ay<|aw<|zo J (mz jf aI J J J (cT hx1))<|zo J (bC aI J J)<|aX (r:=af) (x:=iy) aI (fun _=>bk _) J fun b=>aq aI J an J (ht J) (ht J)<|aV 8 J<|av<|aw<|zo J (c9 yC oA J J) ?_;refine zo J (bC Um J J)<|zo J (IY Db (ht J))<|zo J (fU (ht J) hI)<|av<|c0 h J (fun h=>?_) (fun h=>?_)
     ·refine aw<|zo J (jy)<|av<|am ?_;refine aD (ae (ae (aD (aD (ae (ae (aD (ae ?_))))))));cases so h;exact aH J J
     ·refine bA<|ap<|ax<|au<|zo rfl (lT (cx hx1 hN1) rfl)<|aG rfl<|aP ?_;exact bg (aR (ih1 (i1+1) ⟨cw hx1,h⟩) (bu J))

theorem Zr(b:dv){R:Bool}(h:qr b=some R):aW aQ 12 [tD jv b] (iO R):=by
 refine aW.of Tryz.func12 J J J fun w0 S0=>aw<|zo J (js J)<|zo J (jy)<|av<|ah<|aw<|zo J (c9 AH ri J J)<|zo J (bC vB J J)<|zo J (i7 o3 J)<|zo J (fU (ht J) hI)<|av<|c0 h J (fun h=>?_) (fun h=>?_)
 ·refine aw<|zo J (jy)<|av<|am<|ae ?_;cases so h;exact aH J J
 ·refine dP<|ah<|aw<|zo J (c9 AH ri J J)<|zo J (bC vB J J)<|zo J (i7 o3 J)<|zo J (bE hI)<|av<|ay<|ba (k:=10) J fun hN=>bL ?_;refine aR (d7 (Z:=fun ls i=>(b.Tables.drop i=ls)∧lD ls=some R) (Of:=fun _ i=>[]) (Gf:=fun _ i=>[(10,bW (dU) b.Tables),(11,jr b.Tables),(12,bN (i:Int))]) (fun i h=>?_) (fun e tl ih i h=>?_) b.Tables 0 ⟨J,h⟩) (bu J)
  ·obtain⟨hx,h⟩:=h
   refine aA<|aw<|zo J (fF J J)<|av<|ah<|bz (ht J) (dm hx)<|bv ?_;refine ai (ai (aN ?_));refine ax<|aw<|zo rfl (jy)<|av<|am ?_;cases so h;exact aH J J
  ·obtain⟨hx,h⟩:=h
   refine aA<|aw<|zo J (fF J J)<|av<|ah<|bw (ht J) (dg hx)<|dP<|ah<|ay<|aw<|zo J (mz o3 gU J J J (cT hx))<|zo J (bC gU J J)<|bq J<|av<|aw<|aG J<|bB h fun r q_r h=>zo J (aB adB (Zd _ _ q_r) ⟨(ht J),hI,aS⟩) ?_;refine av<|c0 h J (fun h=>?_) (fun h=>?_)
   ·refine aw<|zo J (jy)<|av<|am ?_;refine aD (ae (ae (aD (ae ?_))));cases so h;exact aH J J
   ·refine bA<|ap<|ax<|au<|zo rfl (lT (cx hx hN) rfl)<|aG rfl<|aP ?_;exact bg (aR (ih (i+1) ⟨cw hx,h⟩) (bu J))

theorem Jn(e:bJ){R:Bool}(h:kU e=some R):aW aQ 25 [tD co e] (iO R):=by
 refine aW.of Tryz.func25 J J J fun w0 S0=>aw<|zo J (js J)<|zo J (jy)<|av<|ah<|aw<|zo J (c9 qx mj J J)<|zo J (bC Bf J J)<|zo J (i7 xw J)<|zo J (fU (ht J) hI)<|av<|c0 h J (fun h=>?_) (fun h=>?_)
 ·refine aw<|zo J (jy)<|av<|am<|ae ?_;cases so h;exact aH J J
 ·refine dP<|ah<|aw<|zo J (c9 qx mj J J)<|zo J (bC Bf J J)<|zo J (i7 xw J)<|zo J (bE hI)<|av<|ay<|ba (k:=10) J fun hN=>bL ?_;refine aR (d7 (Z:=fun ls i=>(e.Nodes.drop i=ls)∧lC ls=some R) (Of:=fun _ i=>[]) (Gf:=fun _ i=>[(10,bW (bO) e.Nodes),(11,jr e.Nodes),(12,bN (i:Int))]) (fun i h=>?_) (fun e1 tl ih i h=>?_) e.Nodes 0 ⟨J,h⟩) (bu J)
  ·obtain⟨hx,h⟩:=h
   refine aA<|aw<|zo J (fF J J)<|av<|ah<|bz (ht J) (dm hx)<|bv ?_;refine ai (ai (aN ?_));refine ax<|aw<|zo rfl (jy)<|av<|am ?_;cases so h;exact aH J J
  ·obtain⟨hx,h⟩:=h
   refine aA<|aw<|zo J (fF J J)<|av<|ah<|bw (ht J) (dg hx)<|dP<|ah<|ay<|aw<|zo J (mz xw p8 J J J (cT hx))<|zo J (bC p8 J J)<|aX (r:=bO) (x:=Rt) p8 (fun _=>vv _) J fun b=>aq p8 J an J (ht J) (ht J)<|aV 4 J<|av<|aw<|zo J (c9 CE rh J J) ?_;refine zo J (c9 yC oA J J)<|zo J (bC Um J J)<|zo J (IY Db (ht J))<|zo J (fU (ht J) hI)<|av<|c0 h J (fun h=>?_) (fun h=>?_)
   ·refine aw<|zo J (jy)<|av<|am ?_;refine aD (ae (ae (aD (ae ?_))));cases so h;exact aH J J
   ·refine bA<|ap<|ax<|au<|zo rfl (lT (cx hx hN) rfl)<|aG rfl<|aP ?_;exact bg (aR (ih (i+1) ⟨cw hx,h⟩) (bu J))

theorem Zq(l:bc)(b:dv){R:Bool}(h:wM l b=some R):aW aQ 13 [tD bS l,tD jv b] (iO R):=by
 refine aW.of Tryz.func13 J J J fun w0 S0=>aw<|zo J (js J)<|zo J (js J)<|zo J (jy)<|av<|ah<|aw<|zo J (c9 kW iL J J)<|zo J (bC tH J J)<|zo J (i7 p6 J)<|zo J (fU (ht J) hI)<|av<|c0 h J (fun h=>?_) (fun h=>?_)
 ·refine aw<|zo J (jy)<|av<|am<|ae ?_;cases so h;exact aH J J
 ·refine dP<|aw<|zo J (cy)<|av<|ah<|aw<|zo J (c9 kW iL J J)<|zo J (bC tH J J)<|zo J (i7 p6 J)<|zo J (bE hI)<|av<|ay<|ba (k:=17) J fun hN=>bL ?_;refine aR (nE (Z:=fun ls i rows=>(l.Nodes.drop i=ls)∧kw b ls rows=some R) (Of:=fun _ i rows=>[]) (Gf:=fun _ i rows=>[(3,bM jv b),(5,bN rows),(17,bW (aF) l.Nodes),(18,jr l.Nodes),(19,bN (i:Int))]) (fun i rows h=>?_) (fun e tl ih i rows h=>?_) l.Nodes 0 (1:Int) ⟨J,h⟩) (bu J)
  ·obtain⟨hx,h⟩:=h
   refine aA<|aw<|zo J (fF J J)<|av<|ah<|bz (ht J) (dm hx)<|bv ?_;refine ai (ai (aN ?_));refine ax<|aw<|aG rfl<|zo rfl (fU (ht rfl) hI)<|bq rfl<|av<|am ?_;cases so h;exact aH J J
  ·obtain⟨hx,h⟩:=h
   refine aA<|aw<|zo J (fF J J)<|av<|ah<|bw (ht J) (dg hx)<|dP<|ah<|ay<|aw<|zo J (mz p6 fL J J J (cT hx))<|zo J (bC fL J J)<|aX (r:=aF) (x:=Id) fL (fun _=>ln _) J fun b1=>aq fL J an J (ht J) (ht J)<|aV 7 J<|av<|ah<|aw ?_;refine zo J (c9 vi oC J J)<|zo J (bC ea J J)<|zo J (i7 hX J)<|zo J (fU (ht J) hI)<|aG J<|eG J J (fun hg=>c9 uh m6 J J)<|eG J J (fun hg=>bI ea J J (bG J hg))<|eG J J (fun hg=>cC hX (bG J hg))<|eG J J (fun hg=>fU (bG J hg) hI)<|zo J (xf J J)<|aG J<|eG J J (fun hg=>c9 qw lE J J)<|eG J J (fun hg=>bI DU J J (bG J hg))<|eG J J (fun hg=>cC DL (bG J hg))<|eG J J (fun hg=>fU (bG J hg) hI)<|zo J (xf J J)<|aG J<|eG J J (fun hg=>c9 rk m5 J J)<|eG J J (fun hg=>bI Be J J (bG J hg))<|eG J J (fun hg=>cC xH (bG J hg))<|eG J J (fun hg=>fU (bG J hg) hI)<|zo J (xf J J)<|aG J<|eG J J (fun hg=>c9 rl oB J J) ?_;refine eG J J (fun hg=>bI Cl J J (bG J hg))<|eG J J (fun hg=>cC xv (bG J hg))<|eG J J (fun hg=>fU (bG J hg) hI)<|zo J (xf J J)<|aG J<|bB h fun t q_t h=>eG J J (fun hg=>c9 sE lM J J)<|eG J J (fun hg=>bI kQ J J (bG J hg)) ?_
   obtain⟨r,h1t,h0t⟩:=og q_t
   have q_rg:=fun hb=>(h1t hb).1
   refine eG J J (fun hg=>aB WL (Jn _ (q_rg hg)) ⟨(bG J hg),aS⟩)<|zo J (gZ (ht J) (fun hb=>(bG J (wK hb))) (fun hb=>(h1t hb).2) h0t)<|av<|c0 h J (fun h=>?_) (fun h=>?_)
   ·refine aw<|zo J (jy)<|av<|am ?_;refine ae (aD (ae (ae (aD (ae ?_)))));cases so h;exact aH J J
   ·refine dP<|ah<|aw<|zo J (c9 rk m5 J J)<|zo J (bC Be J J)<|zo J (i7 xH J)<|zo J (bE hI)<|av<|ay<|ba (k:=57) J fun hN1=>bL ?_;refine aR (d7 (Z:=fun ls1 i1=>(e.Items.drop i1=ls1)∧nP b (kw b tl) e rows ls1=some R) (Of:=fun _ i1=>[]) (Gf:=fun _ i1=>[(3,bM jv b),(5,bN rows),(7,bM aF e),(17,bW (aF) l.Nodes),(18,jr l.Nodes),(19,bN (i:Int)),(57,bW (co) e.Items),(58,jr e.Items),(59,bN (i1:Int))]) (fun i1 h=>?_) (fun e1 tl1 ih1 i1 h=>?_) e.Items 0 ⟨J,h⟩) (bu J)
    ·obtain⟨hx1,h⟩:=h
     refine aA<|aw<|zo J (fF J J)<|av<|ah<|bz (ht J) (dm hx1)<|bv ?_;refine ai (ai (aN ?_));refine ax<|ah<|aw<|zo rfl (c9 rl oB rfl rfl)<|zo rfl (bC Cl rfl rfl)<|zo rfl (i7 xv rfl)<|zo rfl (bE hI)<|av<|ay<|ba (k:=67) J fun hN2=>bL ?_;refine aR (d7 (Z:=fun ls2 i2=>(e.Aggs.drop i2=ls2)∧nO b (kw b tl) e rows ls2=some R) (Of:=fun _ i2=>[]) (Gf:=fun _ i2=>[(3,bM jv b),(5,bN rows),(7,bM aF e),(17,bW (aF) l.Nodes),(18,jr l.Nodes),(19,bN (i:Int)),(67,bW (fG) e.Aggs),(68,jr e.Aggs),(69,bN (i2:Int))]) (fun i2 h=>?_) (fun e2 tl2 ih2 i2 h=>?_) e.Aggs 0 ⟨J,h⟩) (bu J)
     ·obtain⟨hx2,h⟩:=h
      refine aA<|aw<|zo J (fF J J)<|av<|ah<|bz (ht J) (dm hx2)<|bv ?_;refine ai (ai (aN ?_));refine ax<|aw<|zo rfl (c9 yB oE rfl rfl)<|zo rfl (bC cr rfl rfl)<|zo rfl (nX rfl)<|aG rfl<|dN rfl rfl (fun hg=>c9 vj m7 J J)<|dN J J (fun hg=>bI cr J J (bG J hg))<|dN J J (fun hg=>ir (bG J hg) hI)<|zo J (vn J J)<|aG J<|dN J J (fun hg=>c9 vj m7 J J)<|dN J J (fun hg=>bI cr J J (bG J hg))<|dN J J (fun hg=>c9 AH ri J J)<|dN J J (fun hg=>bI vB J J (bG J hg))<|dN J J (fun hg=>cC o3 (bG J hg))<|dN J J (fun hg=>gx (bG J hg) (bG J hg))<|zo J (vn J J)<|av<|c0 h J (fun h=>?_) (fun h=>?_)
      ·refine au<|aG J<|zo J (c9 AH ri J J)<|zo J (bC vB J J)<|zo J (c9 vj m7 J J)<|zo J (bC cr J J)<|bB h fun e3 q_e3 h=>zo J (mz o3 gU J J J q_e3)<|zo J (bC gU J J)<|zo J (i7 i9 J)<|zo J (nY (ht J) hI)<|zo J (yp (ht J) (ht J))<|bq J<|aP<|ap<|ax<|au<|zo rfl (lT (cx hx hN) rfl)<|aG rfl<|aP ?_;exact bg (aR (ih (i+1) (IntKind.i64.wrap (rows*(IntKind.i64.wrap ((e3.length:Int)+(1:Int))))) ⟨cw hx,h⟩) (bu J))
      ·refine bA<|ap<|ax<|au<|zo rfl (lT (cx hx hN) rfl)<|aG rfl<|aP ?_;exact bg (aR (ih (i+1) rows ⟨cw hx,h⟩) (bu J))
     ·obtain⟨hx2,h⟩:=h
      refine aA<|aw<|zo J (fF J J)<|av<|ah<|bw (ht J) (dg hx2)<|dP<|ah<|ay<|aw<|zo J (mz xv uE J J J (cT hx2))<|zo J (bC uE J J)<|aX (r:=fG) (x:=X8) uE (fun _=>ED _) J fun b2=>aq uE J an J (ht J) (ht J)<|aV 11 J<|av<|aw<|zo J (c9 CH vU J J) ?_;refine zo J (bC kQ J J)<|bB h fun r1 q_r1 h=>zo J (aB WL (Jn _ q_r1) ⟨(ht J),aS⟩)<|av<|c0 h J (fun h=>?_) (fun h=>?_)
      ·refine aw<|zo J (jy)<|av<|am ?_;refine aD (ae (ae (aD (ae (aD (ae (ae (aD (ae ?_)))))))));cases so h;exact aH J J
      ·refine bA<|ap<|ax<|au<|zo rfl (lT (cx hx2 hN2) rfl)<|aG rfl<|aP ?_;exact bg (aR (ih2 (i2+1) ⟨cw hx2,h⟩) (bu J))
    ·obtain⟨hx1,h⟩:=h
     refine aA<|aw<|zo J (fF J J)<|av<|ah<|bw (ht J) (dg hx1)<|dP<|ah<|ay<|aw<|zo J (mz xH kQ J J J (cT hx1))<|zo J (bC kQ J J)<|aX (r:=co) (x:=Ap) kQ (fun _=>sL _) J fun b3=>aq kQ J an J (ht J) (ht J)<|aV 9 J<|av<|aw<|zo J (bC kQ J J) ?_;refine bB h fun r2 q_r2 h=>zo J (aB WL (Jn _ q_r2) ⟨(ht J),aS⟩)<|av<|c0 h J (fun h=>?_) (fun h=>?_)
     ·refine aw<|zo J (jy)<|av<|am ?_;refine aD (ae (ae (aD (ae (aD (ae (ae (aD (ae ?_)))))))));cases so h;exact aH J J
     ·refine bA<|ap<|ax<|au<|zo rfl (lT (cx hx1 hN1) rfl)<|aG rfl<|aP ?_;exact bg (aR (ih1 (i1+1) ⟨cw hx1,h⟩) (bu J))

end Go.Proofs.YtfhhakidodmdfaaGreatDoor

