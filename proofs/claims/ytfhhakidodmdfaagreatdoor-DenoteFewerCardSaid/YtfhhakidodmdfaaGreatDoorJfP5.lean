/- cU of this claim: P5. -/
import Derived.Test.YtfhhakidodmdfaaGreatDoorJfT
import Derived.Test.YtfhhakidodmdfaaGreatDoorJfP4
set_option linter.all false
namespace Go.Proofs.YtfhhakidodmdfaaGreatDoor
open Go
set_option maxRecDepth 100000

theorem Wd(a1:(List (List ac)))(b:(List (List ac))):AV aQ 170 (fun(x:Int×(List ac))=>[bN x.1,bW (af) x.2]) (fun _=>mt a1 b) [] [bM dU a1,bM dU b]:=by
 refine AV.of Tryz.func170 J J J fun Sg yld s R h I yv hy e he w0 S0 B hB=>?_
 replace h:mt a1 b yld s=some R:=h
 refine aw<|zo J (bC gU J J)<|zo J (i7 i9 J)<|zo J (bE hI)<|av<|ay<|ba (k:=8) J fun hN=>bL ?_;refine aR (wd (Z:=fun ls i e1 s1=>(a1.drop i=ls)∧I s1 e1∧dO b yld ls i s1=some R) (Of:=fun _ i e1 s1=>[e1]) (Gf:=fun _ i e1 s1=>[(0,tV yv),(2,bM dU b),(8,bW (cR) a1),(9,jr a1),(10,bN (i:Int))]) (fun i e1 s1 h=>?_) (fun e2 tl ih i e1 s1 h=>?_) a1 0 e s ⟨J,⟨he,h⟩⟩) (bu J)
 ·obtain⟨hx,h⟩:=h
  obtain⟨he1,h⟩:=h
  refine aA<|aw<|zo J (fF J J)<|av<|ah<|bz (ht J) (dm hx)<|bv ?_;refine ai (ai (aN ?_));cases so h;exact Mx J he1 hB trivial
 ·obtain⟨hx,h⟩:=h
  obtain⟨he1,h⟩:=h
  refine aA<|aw<|zo J (fF J J)<|av<|ah<|bw (ht J) (dg hx)<|dP<|ah<|ay<|aw<|aG J<|zo J (mz i9 dy J J J (cT hx))<|zo J (bC dy J J)<|bq J<|bq J<|av<|aw<|zo J (bC gU J J) ?_;refine zo J (i7 i9 J)<|zo J (bE hI)<|av<|ay<|ba (k:=15) J fun hN1=>bL ?_;refine aR (wd (Z:=fun ls1 i1 e3 s2=>(b.drop i1=ls1)∧I s2 e3∧fS yld (dO b yld tl) i e2 ls1 s2=some R) (Of:=fun _ i1 e3 s2=>[e3]) (Gf:=fun _ i1 e3 s2=>[(0,tV yv),(2,bM dU b),(4,bN (i:Int)),(5,bW (af) e2),(8,bW (cR) a1),(9,jr a1),(10,bN (i:Int)),(15,bW (cR) b),(16,jr b),(17,bN (i1:Int))]) (fun i1 e3 s2 h=>?_) (fun e4 tl1 ih1 i1 e3 s2 h=>?_) b 0 e1 s1 ⟨J,⟨he1,h⟩⟩) (bu J)
  ·obtain⟨hx1,h⟩:=h
   obtain⟨he2,h⟩:=h
   refine aA<|aw<|zo J (fF J J)<|av<|ah<|bz (ht J) (dm hx1)<|bv ?_;refine ai (ai (aN ?_));refine ap<|ax<|au<|zo rfl (lT (cx hx hN) rfl)<|aG rfl<|aP ?_;exact bg (aR (ih (i+1) e3 s2 ⟨cw hx,⟨he2,h⟩⟩) (bu J))
  ·obtain⟨hx1,h⟩:=h
   obtain⟨he2,h⟩:=h
   refine aA<|aw<|zo J (fF J J)<|av<|ah<|bw (ht J) (dg hx1)<|dP<|ah<|ay<|aw<|zo J (mz i9 dy J J J (cT hx1))<|zo J (bC dy J J)<|bq J<|av<|aw<|aG J<|aG J<|aG J ?_;refine aG J<|zo J (aU (r:=cR) (ys:=[e2,e4]) (xs:=[.tmp 23,.tmp 24]) i9 dy J J J J J ⟨(ht J),(ht J),aS⟩)<|bB h fun r q_r h=>jd XW (LL _ q_r) ⟨(ht J),aS⟩ J fun l c=>kJ<|jM 26 J<|bH<|bB h fun r1 q_r1 h=>Ga hy he2 q_r1 (ht J) ⟨(ht J),(lb (ht J)),aS⟩ J fun e5 he3=>zo J (fj (ht J))<|av<|c0 h J (fun h=>?_) (fun h=>?_)
   ·refine am ?_;refine aD (ae (ae (aD (aD (ae (ae (aD ?_)))))));refine bD<|bf ?_;cases so h;exact JJ J he3 hB trivial
   ·refine bA<|ap<|ax<|au<|zo rfl (lT (cx hx1 hN1) rfl)<|aG rfl<|aP<|bD<|bf ?_;exact bg (aR (ih1 (i1+1) e5 r1.2 ⟨cw hx1,⟨he3,h⟩⟩) (bu J))

theorem S6(a1:(List (List ac)))(b:(List (List ac))){R:It (Int×(List ac))}(h:wU a1 b=some R):AN aQ 102 [bW (cR) a1,bW (cR) b] (fun(x:Int×(List ac))=>[bN x.1,bW (af) x.2]) R:=by
 refine AN.of Tryz.func102 J J J fun w0 S0=>aw<|zo J (js J)<|zo J (js J)<|zo J (aM hV)<|av<|aw<|DI (O1:=[]) (cts:=[bM dU a1,bM dU b]) (caps:=[.tmp 2,.tmp 3]) J ack (Wd a1 b) ⟨(ht J),(ht J),aS⟩ J fun v fp=>bq J<|av<|am ?_;cases so h;exact Mv J J

theorem Vy(do1:(ac→ac→Option (ac×Int)))(a1:ac)(b:ac){R:ac×Int}(h:lN do1 a1 b=some R):aW aQ 323 [tD af a1,tD af b,bM (rT ((dR aQ qK tE (fun(x:ac×ac)=>do1 x.1 x.2)))) ()] (tT [tD af R.1,bN R.2]):=by
 refine aW.of Tryz.func323 J J J fun w0 S0=>aw<|zo J (js J)<|zo J (js J)<|aX (r:=af) (x:=iy) aI (fun _=>bk _) J fun b1=>zo J (cy)<|av<|aw<|zo J (vM Xh (ht J))<|zo J (bC aI J J)<|zo J (bC aI J J)<|bB h fun r q_r h=>zo J (eU (args:=qK) (res:=DQ) (f:=(fun(x:ac×ac)=>do1 x.1 x.2)) (x:=((b,a1):ac×ac)) (ht J) q_r ⟨(ht J),(ht J),aS⟩)<|zo J (gE J J)<|zo J (gE J J)<|aq aI J an J (ht J) (ht J)<|aV 5 J<|bq J<|av<|am ?_;cases so h;exact bQ J J ⟨bt aI J J J,aZ J,aS⟩

theorem VP(do1:(ac→ac→Option (ac×Int))){R:(ac→ac→Option (ac×Int))}(h:Dy do1=some R):aW aQ 261 [(dR aQ qK tE (fun(x:ac×ac)=>do1 x.1 x.2))] ((dR aQ qK tE (fun(x:ac×ac)=>R x.1 x.2))):=by
 refine aW.of Tryz.func261 J J J fun w0 S0=>aw<|zo J (Ec (ht J))<|zo J (aM hV)<|av<|aw<|zo J ((show bR _ _ _ _ ((dR aQ qK tE (fun(x:ac×ac)=>(lN do1) x.1 x.2)))from ig (cts:=[bM (rT ((dR aQ qK tE (fun(x:ac×ac)=>do1 x.1 x.2)))) ()]) (caps:=[.tmp 1]) abp ⟨(ht J),aS⟩ (fun x y h=>Vy _ _ _ h)))<|bq J<|av<|am ?_;cases so h;exact aH J J

theorem Jp{R:ac}(h:px=some R):aW aQ 216 [] (tD af R):=by
 refine aW.of Tryz.func216 J J J fun w0 S0=>aw<|aX (r:=af) (x:=iy) aI (fun _=>bk _) J fun b=>av<|aw<|zo J (bY (y:=iy) aI qO bk (J))<|aq aI J an J (ht J) (ht J)<|aV 0 J<|av<|am ?_;cases so h;exact je J aI J J J

theorem Jo(b:Bool){R:ac}(h:py b=some R):aW aQ 256 [iO b] (tD af R):=by
 refine aW.of Tryz.func256 J J J fun w0 S0=>aw<|aX (r:=af) (x:=iy) aI (fun _=>bk _) J fun b1=>av<|aw<|zo J (bY (y:=Rr) aI qO bk (⟨_,_,_,_,_,J,oq,J,hI,J⟩))<|aX (r:=af) (x:=iy) aI (fun _=>bk _) J fun b2=>aq aI J an J (ht J) (ht J)<|av ?_;refine kL (Z:=fun v=>vb v=some R) (Of:=fun v=>[bx af 46 b1 iy,bx af 46 b2 v]) (Gf:=fun v=>[(2,tV (aO b1 0)),(3,tV (aO b2 0))]) (fun v h=>?_) (fun K=>?_)
 ·skip
  refine aw<|zo J (ce aI J J bU (.tail _ (.head _)) (ht J))<|aq aI J an J (ht J) (ht J)<|aV 2 J<|av<|am<|bf ?_;cases so h;exact je J aI J J J
 ·skip
  refine aw<|aG J<|av<|c0 h J (fun h=>?_) (fun h=>?_)
  ·refine au<|zo J (jY 1 ml J J J)<|aq Gx J pC J (ht J) hI<|aP<|bD ?_;exact cF (K (ac.mk Rr.Kind (1:Int) Rr.U Rr.S) h) (bu J)
  ·refine bA<|bD ?_;exact cF (K Rr h) (bu J)

theorem Pg(l:(List ac)){R:Int}(h:pO l=some R):aW aQ 363 [bW (af) l] (bN R):=by
 refine aW.of Tryz.func363 J J J fun w0 S0=>aw<|zo J (cy)<|av<|ah<|aw<|aG J<|zo J (i7 kC J)<|zo J (bE hI)<|av<|ay<|ba (k:=6) J fun hN=>bL ?_;refine aR (d7 (Z:=fun ls i=>(l.drop i=ls)∧jz ls=some R) (Of:=fun _ i=>[]) (Gf:=fun _ i=>[(6,bW (af) l),(7,jr l),(8,bN (i:Int))]) (fun i h=>?_) (fun e tl ih i h=>?_) l 0 ⟨J,h⟩) (bu J)
 ·obtain⟨hx,h⟩:=h
  refine aA<|aw<|zo J (fF J J)<|av<|ah<|bz (ht J) (dm hx)<|bv ?_;refine ai (ai (aN ?_));refine ax<|aw<|zo rfl (cy)<|av<|am ?_;cases so h;exact aH J J
 ·obtain⟨hx,h⟩:=h
  refine aA<|aw<|zo J (fF J J)<|av<|ah<|bw (ht J) (dg hx)<|dP<|ah<|ay<|aw<|zo J (mz kC aI J J J (cT hx))<|zo J (bC aI J J)<|aX (r:=af) (x:=iy) aI (fun _=>bk _) J fun b=>aq aI J an J (ht J) (ht J)<|aV 4 J<|av<|aw<|zo J (bC aI J J) ?_;refine bB h fun r q_r h=>zo J (aB LZ (BL _ q_r) ⟨(ht J),aS⟩)<|bq J<|av<|aw<|aG J<|zo J (s8 J)<|av<|c0 h J (fun h=>?_) (fun h=>?_)
  ·refine aw<|aG J<|bq J<|av<|am ?_;refine aD (ae (ae (aD (ae ?_))));cases so h;exact aH J J
  ·refine bA<|ap<|ax<|au<|zo rfl (lT (cx hx hN) rfl)<|aG rfl<|aP ?_;exact bg (aR (ih (i+1) ⟨cw hx,h⟩) (bu J))

theorem Pv(p:Int){R:Bool}(h:nT p=some R):aW aQ 153 [bN p] (iO R):=by
 refine aW.of Tryz.func153 J J J fun w0 S0=>aw<|zo J (jy)<|av<|aw<|aG J<|aG J<|zo J (ft (ht J) (ht J))<|bq J<|av<|am ?_;cases so h;exact aH J J

theorem NV(p:Int)(y:Int){R:Int}(h:gX p y=some R):aW aQ 88 [bN p,bN y] (bN R):=by
 refine aW.of Tryz.func88 J J J fun w0 S0=>aw<|zo J (cy)<|av<|aw<|aG J<|bB h fun r q_r h=>zo J (aB XT (Pv _ q_r) ⟨(ht J),aS⟩)<|bq J<|av<|aw<|aG J<|bB h fun r1 q_r1 h=>zo J (aB XT (Pv _ q_r1) ⟨(ht J),aS⟩)<|bq J<|av<|ah<|ah ?_;refine au<|aG J<|av<|c0 h J (fun h=>?_) (fun h=>?_)
 ·refine ah<|aw<|aG J<|av<|c0 h J (fun h=>?_) (fun h=>?_)
  ·refine aw<|zo J (cy)<|av<|am ?_;refine ae (ae ?_);cases so h;exact aH J J
  ·refine dP<|aw<|zo J (cy)<|av<|am<|ae ?_;cases so h;exact aH J J
 ·refine dP<|ah<|aw<|aG J<|av<|c0 h J (fun h=>?_) (fun h=>?_)
  ·refine aw<|zo J (cy)<|av<|am<|ae ?_;cases so h;exact aH J J
  ·refine dP<|ah<|aw<|aG J<|aG J<|zo J (fF J J)<|av<|c0 h J (fun h=>?_) (fun h=>?_)
   ·refine aw<|zo J (cy)<|av<|am<|ae ?_;cases so h;exact aH J J
   ·refine dP<|ah<|aw<|aG J<|aG J<|zo J (fU (ht J) (ht J))<|av<|c0 h J (fun h=>?_) (fun h=>?_)
    ·refine aw<|zo J (cy)<|av<|am<|ae ?_;cases so h;exact aH J J
    ·refine dP<|aw<|zo J (cy)<|av<|am ?_;cases so h;exact aH J J

theorem Jq(vals:(List Int)){R:Int}(h:nf vals=some R):aW aQ 176 [mK vals] (bN R):=by
 refine aW.of Tryz.func176 J J J fun w0 S0=>aw<|zo J (cy)<|av<|aw<|zo J (cy)<|av<|ah<|aw<|aG J<|zo J (i7 hX J)<|zo J (bE hI)<|av<|ay<|ba (k:=6) J fun hN=>bL ?_;refine aR (d7 (Z:=fun ls i=>(vals.drop i=ls)∧gj ls=some R) (Of:=fun _ i=>[]) (Gf:=fun _ i=>[(3,bN 0),(6,mK vals),(7,jr vals),(8,bN (i:Int))]) (fun i h=>?_) (fun e tl ih i h=>?_) vals 0 ⟨J,h⟩) (bu J)
 ·obtain⟨hx,h⟩:=h
  refine aA<|aw<|zo J (fF J J)<|av<|ah<|bz (ht J) (dm hx)<|bv ?_;refine ai (ai (aN ?_));refine ax<|aw<|aG rfl<|bq rfl<|av<|am ?_;cases so h;exact aH J J
 ·obtain⟨hx,h⟩:=h
  refine aA<|aw<|zo J (fF J J)<|av<|ah<|bw (ht J) (dg hx)<|dP<|ah<|ay<|aw<|zo J (mz hX cr J J J (cT hx))<|zo J (bC cr J J)<|bq J<|av<|aw<|aG J<|aG J<|zo J (ft (ht J) (ht J)) ?_;refine av<|c0 h J (fun h=>?_) (fun h=>?_)
  ·refine aw<|aG J<|bq J<|av<|am ?_;refine aD (ae (ae (aD (ae ?_))));cases so h;exact aH J J
  ·refine bA<|ap<|ax<|au<|zo rfl (lT (cx hx hN) rfl)<|aG rfl<|aP ?_;exact bg (aR (ih (i+1) ⟨cw hx,h⟩) (bu J))

theorem Pm(p:Int){R:Bool}(h:li p=some R):aW aQ 310 [bN p] (iO R):=by
 refine aW.of Tryz.func310 J J J fun w0 S0=>aw<|zo J (jy)<|av<|aw<|aG J<|aG J<|zo J (ft (ht J) (ht J))<|bq J<|av<|am ?_;cases so h;exact aH J J

theorem Pt(p:Int)(y:Int){R:Int}(h:gQ p y=some R):aW aQ 243 [bN p,bN y] (bN R):=by
 refine aW.of Tryz.func243 J J J fun w0 S0=>aw<|zo J (cy)<|av<|aw<|aG J<|bB h fun r q_r h=>zo J (aB XH (Pm _ q_r) ⟨(ht J),aS⟩)<|bq J<|av<|aw<|aG J<|bB h fun r1 q_r1 h=>zo J (aB XH (Pm _ q_r1) ⟨(ht J),aS⟩)<|bq J<|av<|ah<|ah ?_;refine au<|aG J<|av<|c0 h J (fun h=>?_) (fun h=>?_)
 ·refine ah<|aw<|aG J<|av<|c0 h J (fun h=>?_) (fun h=>?_)
  ·refine aw<|zo J (cy)<|av<|am ?_;refine ae (ae ?_);cases so h;exact aH J J
  ·refine dP<|aw<|zo J (cy)<|av<|am<|ae ?_;cases so h;exact aH J J
 ·refine dP<|ah<|aw<|aG J<|av<|c0 h J (fun h=>?_) (fun h=>?_)
  ·refine aw<|zo J (cy)<|av<|am<|ae ?_;cases so h;exact aH J J
  ·refine dP<|ah<|aw<|aG J<|aG J<|zo J (fF J J)<|av<|c0 h J (fun h=>?_) (fun h=>?_)
   ·refine aw<|zo J (cy)<|av<|am<|ae ?_;cases so h;exact aH J J
   ·refine dP<|ah<|aw<|aG J<|aG J<|zo J (fU (ht J) (ht J))<|av<|c0 h J (fun h=>?_) (fun h=>?_)
    ·refine aw<|zo J (cy)<|av<|am<|ae ?_;cases so h;exact aH J J
    ·refine dP<|aw<|zo J (cy)<|av<|am ?_;cases so h;exact aH J J

theorem Ve(a1:xC)(b:xC){R:Int}(h:jn a1 b=some R):aW aQ 382 [tD rS a1,tD rS b] (bN R):=by
 refine aW.of Tryz.func382 J J J fun w0 S0=>aw<|zo J (cy)<|av<|aw<|aG J<|aG J<|zo J (UM Tryz.func386 (by kernel_rfl) (by kernel_rfl) (by kernel_rfl) (by kernel_rfl) (ht J) (ht J))<|bq J<|av<|am ?_;cases so h;exact aH J J

theorem Vf(a1:xC)(b:xC){R:Int}(h:pp a1 b=some R):aW aQ 376 [tD rS a1,tD rS b] (bN R):=by
 refine aW.of Tryz.func376 J J J fun w0 S0=>aw<|zo J (cy)<|av<|aw<|aG J<|aG J<|bB h fun r q_r h=>zo J (aB aa3 (Ve _ _ q_r) ⟨(ht J),(ht J),aS⟩)<|bq J<|av<|am ?_;cases so h;exact aH J J

theorem Vh(a1:ac)(b:ac){R:Int}(h:lF a1 b=some R):aW aQ 364 [tD af a1,tD af b] (bN R):=by
 refine aW.of Tryz.func364 J J J fun w0 S0=>aw<|zo J (js J)<|zo J (js J)<|zo J (cy)<|av<|ah<|aw<|zo J (bC aI J J)<|bB h fun r q_r h=>zo J (aB PM (El _ q_r) ⟨(ht J),aS⟩)<|zo J (fj (ht J))<|aG J<|bB h fun t q_t h=>eG J J (fun hg=>bC aI J J) ?_
 obtain⟨r1,h1t,h0t⟩:=og q_t
 have q_r1g:=fun hb=>(h1t hb).1
 refine eG J J (fun hg=>aB PM (El _ (q_r1g hg)) ⟨(bG J hg),aS⟩)<|eG J J (fun hg=>fj (bG J hg))<|zo J (gZ (ht J) (fun hb=>(bG J (wK hb))) (fun hb=>(h1t hb).2) h0t)<|av<|c0 h J (fun h=>?_) (fun h=>?_)
 ·refine aw<|zo J (cy)<|av<|am<|ae ?_;cases so h;exact aH J J
 ·refine dP<|ah<|bB h fun r2 q_r2 h=>bB h fun r3 q_r3 h=>bB h fun r4 q_r4 h=>bB h fun r5 q_r5 h=>?_
  refine da (ts:=[_,_,_,_,_,_,_,_,_,_,_,_,_,_,_,_,_,_]) mixed J J
   ⟨eH 2 J J J (c9 iu cS J J),
   ⟨bZ 13 0 J J J (bC cr J J),
   ⟨eH 3 J J J (c9 iu cS J J),
   ⟨bZ 15 2 J J J (bC cr J J),
   ⟨d3 14 1 16 3 J J J J (aB ZD (NV _ _ q_r2) ⟨(ht J),(ht J),aS⟩),
   ⟨eH 2 J J J (c9 ml fI J J),
   ⟨bZ 18 5 J J J (bC Gx J J),
   ⟨eH 3 J J J (c9 ml fI J J),
   ⟨bZ 20 7 J J J (bC Gx J J),
   ⟨d3 19 6 21 8 J J J J (aB XP (Pt _ _ q_r3) ⟨(ht J),(ht J),aS⟩),
   ⟨eH 2 J J J (c9 yC oA J J),
   ⟨bZ 23 10 J J J (bC Um J J),
   ⟨eH 3 J J J (c9 yC oA J J),
   ⟨bZ 25 12 J J J (bC Um J J),
   ⟨d3 24 11 26 13 J J J J (aB aa4 (Vf _ _ q_r4) ⟨(ht J),(ht J),aS⟩),
   ⟨De 17 4 22 9 27 14 J J J J J (aU (r:=ca) (ys:=[r2,r3,r4]) (xs:=[.tmp 17,.tmp 22,.tmp 27]) hX cr J J J J J ⟨(ht J),(ht J),(ht J),aS⟩),
   ⟨bZ 28 15 J J J (aB Ts (Jq _ q_r5) ⟨(ht J),aS⟩),
   ⟨bZ 29 16 J J J (vx J),
   aS⟩⟩⟩⟩⟩⟩⟩⟩⟩⟩⟩⟩⟩⟩⟩⟩⟩⟩ ?_
  refine ax<|am ?_;cases so h;exact aH J J

theorem Pi(a1:ac)(b:ac)(is1:(Int→Option Bool)){R:ac×Int}(h:qT a1 b is1=some R):aW aQ 324 [tD af a1,tD af b,(dR aQ Kb mA (fun(x:Int)=>is1 x))] (tT [tD af R.1,bN R.2]):=by
 refine aW.of Tryz.func324 J J J fun w0 S0=>aw<|zo J (js J)<|zo J (js J)<|aX (r:=af) (x:=iy) aI (fun _=>bk _) J fun b1=>zo J (cy)<|av<|ah<|aw<|zo J (bC aI J J)<|zo J (bC aI J J)<|zo J (aU (r:=af) (ys:=[a1,b]) (xs:=[.tmp 10,.tmp 11]) kC aI J J J J J ⟨(ht J),(ht J),aS⟩)<|bB h fun r q_r h=>zo J (aB XC (Pg _ q_r) ⟨(ht J),aS⟩)<|bq J<|av<|aw<|aG J<|zo J (s8 J) ?_;refine av<|c0 h J (fun h=>?_) (fun h=>?_)
 ·refine aw<|zo J (bY (y:=iy) aI qO bk (J))<|aG J<|aq aI J an J (ht J) (ht J)<|bq J<|av<|am<|ae<|bj 6 J ?_;cases so h;exact bQ J J ⟨bt aI J J J,aZ J,aS⟩
 ·refine dP<|aw<|zo J (c9 iu cS J J)<|zo J (bC cr J J)<|zo J (nX J)<|aG J<|eG J J (fun hg=>c9 iu cS J J)<|eG J J (fun hg=>bI cr J J (bG J hg))<|eG J J (fun hg=>dx (bG J hg) hI)<|zo J (xf J J)<|bq J<|av<|ah<|ay<|aw<|zo J (c9 iu cS J J)<|zo J (bC cr J J)<|zo J (nX J)<|aG J<|eG J J (fun hg=>c9 iu cS J J) ?_;refine eG J J (fun hg=>bI cr J J (bG J hg))<|eG J J (fun hg=>dx (bG J hg) hI)<|zo J (xf J J)<|aG J<|eG J J (fun hg=>de J)<|eG J J (fun hg=>fj (bG J hg))<|eG J J (fun hg=>bE (bG J hg))<|j7 J J J J (fun hg=>c9 iu cS J J)<|j7 J J J J (fun hg=>bI cr J J (bG J hg))<|j7 J J J J (fun hg=>c9 iu cS J J)<|j7 J J J J (fun hg=>bI cr J J (bG J hg))<|j7 J J J J (fun hg=>ft (bG J hg) (bG J hg))<|eG J J (fun hg=>q7 (bG J hg) (fun hb=>(bG J (B3 hg hb))))<|zo J (xf J J)<|bq J<|av<|c0 h J (fun h=>?_) (fun h=>?_)
  ·refine aw<|zo J (bY (y:=iy) aI qO bk (J))<|aq aI J an J (ht J) (ht J)<|zo J (cy)<|av<|am ?_;refine aD (ae ?_);refine bj 6 J ?_;cases so h;exact bQ J J ⟨bt aI J J J,aZ J,aS⟩
  ·refine aw<|aG J<|bq J<|av<|c0 h J (fun h=>?_) (fun h=>?_)
   ·refine aw<|bB h fun r1 q_r1 h=>zo J (aB Tp (Jp q_r1) trivial)<|aq aI J an J (ht J) (ht J)<|zo J (cy)<|av<|am ?_;refine aD (ae ?_);refine bj 6 J ?_;cases so h;exact bQ J J ⟨bt aI J J J,aZ J,aS⟩
   ·refine bA<|ap<|ax<|aw<|aG rfl<|zo rfl (bC aI rfl rfl)<|zo rfl (bC aI rfl rfl)<|bB h fun r2 q_r2 h=>zo J (aB aa7 (Vh _ _ q_r2) ⟨(ht J),(ht J),aS⟩)<|bB h fun r3 q_r3 h=>zo J (eU (args:=(fun(x:Int)=>[tD ca x])) (res:=Ih) (f:=(fun(x:Int)=>is1 x)) (x:=((r2):Int)) (ht J) q_r3 ⟨(ht J),aS⟩)<|bB h fun r4 q_r4 h=>zo J (aB To (Jo _ q_r4) ⟨(ht J),aS⟩)<|aq aI J an J (ht J) (ht J)<|zo J (cy)<|av<|am<|bj 6 J ?_;cases so h;exact bQ J J ⟨bt aI J J J,aZ J,aS⟩

theorem Vx(c:Int){R:Bool}(h:Bd c=some R):aW aQ 325 [bN c] (iO R):=by
 refine aW.of Tryz.func325 J J J fun w0 S0=>aw<|zo J (jy)<|av<|aw<|aG J<|zo J (gx (ht J) hI)<|bq J<|av<|am ?_;cases so h;exact aH J J

theorem Jm(a1:ac)(b:ac){R:ac×Int}(h:oj a1 b=some R):aW aQ 262 [tD af a1,tD af b] (tT [tD af R.1,bN R.2]):=by
 refine aW.of Tryz.func262 J J J fun w0 S0=>aw<|zo J (js J)<|zo J (js J)<|aX (r:=af) (x:=iy) aI (fun _=>bk _) J fun b1=>zo J (cy)<|av<|aw<|zo J (bC aI J J)<|zo J (bC aI J J)<|bB h fun r q_r h=>zo J (aB XE (Pi _ _ _ q_r) ⟨(ht J),(ht J),(zJ abo fun x y h=>Vx _ h),aS⟩)<|zo J (gE J J)<|zo J (gE J J)<|aq aI J an J (ht J) (ht J)<|aV 4 J<|bq J<|av<|am ?_;cases so h;exact bQ J J ⟨bt aI J J J,aZ J,aS⟩

theorem Vw(do1:(ac→Option (ac×Int)))(a1:ac)(x:ac){R:ac×Int}(h:na do1 a1 x=some R):aW aQ 326 [tD af a1,tD af x,bM (rT ((dR aQ Bb tE (fun(x:ac)=>do1 x)))) ()] (tT [tD af R.1,bN R.2]):=by
 refine aW.of Tryz.func326 J J J fun w0 S0=>aw<|zo J (js J)<|zo J (js J)<|aX (r:=af) (x:=iy) aI (fun _=>bk _) J fun b=>zo J (cy)<|av<|aw<|zo J (vM aaf (ht J))<|zo J (bC aI J J)<|bB h fun r q_r h=>zo J (eU (args:=Bb) (res:=DQ) (f:=(fun(x:ac)=>do1 x)) (x:=((a1):ac)) (ht J) q_r ⟨(ht J),aS⟩)<|zo J (gE J J)<|zo J (gE J J)<|aq aI J an J (ht J) (ht J)<|aV 5 J<|bq J<|av<|am ?_;cases so h;exact bQ J J ⟨bt aI J J J,aZ J,aS⟩

theorem Ps(do1:(ac→Option (ac×Int))){R:(ac→ac→Option (ac×Int))}(h:AJ do1=some R):aW aQ 263 [(dR aQ Bb tE (fun(x:ac)=>do1 x))] ((dR aQ qK tE (fun(x:ac×ac)=>R x.1 x.2))):=by
 refine aW.of Tryz.func263 J J J fun w0 S0=>aw<|zo J (Ec (ht J))<|zo J (aM hV)<|av<|aw<|zo J ((show bR _ _ _ _ ((dR aQ qK tE (fun(x:ac×ac)=>(na do1) x.1 x.2)))from ig (cts:=[bM (rT ((dR aQ Bb tE (fun(x:ac)=>do1 x)))) ()]) (caps:=[.tmp 1]) abn ⟨(ht J),aS⟩ (fun x y h=>Vw _ _ _ h)))<|bq J<|av<|am ?_;cases so h;exact aH J J

theorem BK(n:Int){R:ac}(h:oO n=some R):aW aQ 130 [bN n] (tD af R):=by
 refine aW.of Tryz.func130 J J J fun w0 S0=>aw<|aX (r:=af) (x:=iy) aI (fun _=>bk _) J fun b=>av<|aw<|aG J<|zo J (bY (y:=(⟨(2:Int),n,(0:Int),[]⟩:ac)) aI qO bk (⟨_,_,_,_,_,J,oq,J,hI,⟨_,_,_,_,_,J,pC,J,(ht J),J⟩⟩))<|aq aI J an J (ht J) (ht J)<|aV 2 J<|av<|am ?_;cases so h;exact je J aI J J J

theorem Ei(kind:Int)(l:(List ac)){R:Int}(h:pW kind l=some R):aW aQ 288 [bN kind,bW (af) l] (bN R):=by
 refine aW.of Tryz.func288 J J J fun w0 S0=>aw<|zo J (cy)<|av<|aw<|zo J (cy)<|av<|ah<|aw<|aG J<|zo J (i7 kC J)<|zo J (bE hI)<|av<|ay<|ba (k:=8) J fun hN=>bL ?_;refine aR (nE (Z:=fun ls i e=>(l.drop i=ls)∧km kind ls e=some R) (Of:=fun _ i e=>[]) (Gf:=fun _ i e=>[(0,bN kind),(5,bN e),(8,bW (af) l),(9,jr l),(10,bN (i:Int))]) (fun i e h=>?_) (fun e1 tl ih i e h=>?_) l 0 (0:Int) ⟨J,h⟩) (bu J)
 ·obtain⟨hx,h⟩:=h
  refine aA<|aw<|zo J (fF J J)<|av<|ah<|bz (ht J) (dm hx)<|bv ?_;refine ai (ai (aN ?_));refine ax<|aw<|aG rfl<|bq rfl<|av<|am ?_;cases so h;exact aH J J
 ·obtain⟨hx,h⟩:=h
  refine aA<|aw<|zo J (fF J J)<|av<|ah<|bw (ht J) (dg hx)<|dP<|ah<|ay<|aw<|zo J (mz kC aI J J J (cT hx))<|zo J (bC aI J J)<|aX (r:=af) (x:=iy) aI (fun _=>bk _) J fun b=>aq aI J an J (ht J) (ht J)<|aV 7 J<|av<|ah<|aw ?_;refine zo J (bC aI J J)<|bB h fun r q_r h=>zo J (aB LZ (BL _ q_r) ⟨(ht J),aS⟩)<|zo J (s8 J)<|av<|c0 h J (fun h=>?_) (fun h=>?_)
  ·refine aw<|zo J (cy)<|av<|am ?_;refine ae (aD (ae (ae (aD (ae ?_)))));cases so h;exact aH J J
  ·refine dP<|aw<|zo J (c9 iu cS J J)<|zo J (bC cr J J)<|zo J (s8 J)<|aG J<|dN J J (fun hg=>c9 iu cS J J)<|dN J J (fun hg=>bI cr J J (bG J hg))<|dN J J (fun hg=>de J)<|dN J J (fun hg=>ft (bG J hg) (bG J hg))<|zo J (vn J J)<|av<|c0 h J (fun h=>?_) (fun h=>?_)
   ·refine au<|zo J (cy)<|aP<|ap<|ax<|au<|zo rfl (lT (cx hx hN) rfl)<|aG rfl<|aP ?_;exact bg (aR (ih (i+1) (2:Int) ⟨cw hx,h⟩) (bu J))
   ·refine bA<|ap<|ax<|au<|zo rfl (lT (cx hx hN) rfl)<|aG rfl<|aP ?_;exact bg (aR (ih (i+1) e ⟨cw hx,h⟩) (bu J))

theorem Eh(a1:ac)(b:ac)(to1:(Int→Int→Option (Int×Bool))){R:ac×Int}(h:sk a1 b to1=some R):aW aQ 330 [tD af a1,tD af b,(dR aQ (fun(x:Int×Int)=>[bN x.1,bN x.2]) (fun(x:Int×Bool)=>tT [bN x.1,iO x.2]) (fun(x:Int×Int)=>to1 x.1 x.2))] (tT [tD af R.1,bN R.2]):=by
 refine aW.of Tryz.func330 J J J fun w0 S0=>aw<|zo J (js J)<|zo J (js J)<|aX (r:=af) (x:=iy) aI (fun _=>bk _) J fun b1=>zo J (cy)<|av<|ah<|aw<|zo J (bC aI J J)<|zo J (bC aI J J)<|zo J (aU (r:=af) (ys:=[a1,b]) (xs:=[.tmp 11,.tmp 12]) kC aI J J J J J ⟨(ht J),(ht J),aS⟩)<|bB h fun r q_r h=>zo J (aB PJ (Ei _ _ q_r) ⟨hI,(ht J),aS⟩)<|bq J<|av<|aw<|aG J<|zo J (s8 J) ?_;refine av<|c0 h J (fun h=>?_) (fun h=>?_)
 ·refine aw<|zo J (bY (y:=iy) aI qO bk (J))<|aG J<|aq aI J an J (ht J) (ht J)<|bq J<|av<|am<|ae<|bj 6 J ?_;cases so h;exact bQ J J ⟨bt aI J J J,aZ J,aS⟩
 ·refine dP<|ah<|aw<|zo J (c9 iu cS J J)<|zo J (bC cr J J)<|zo J (nX J)<|aG J<|eG J J (fun hg=>c9 iu cS J J)<|eG J J (fun hg=>bI cr J J (bG J hg))<|eG J J (fun hg=>dx (bG J hg) hI)<|zo J (xf J J)<|av<|c0 h J (fun h=>?_) (fun h=>?_)
  ·refine aw<|bB h fun r1 q_r1 h=>zo J (aB Tp (Jp q_r1) trivial)<|aq aI J an J (ht J) (ht J)<|zo J (cy)<|av<|am<|ae<|bj 6 J ?_;cases so h;exact bQ J J ⟨bt aI J J J,aZ J,aS⟩
  ·refine dP<|aw<|aG J<|zo J (c9 ml fI J J)<|zo J (bC Gx J J)<|zo J (c9 ml fI J J)<|zo J (bC Gx J J)<|bB h fun r2 q_r2 h=>zo J (eU (args:=(fun(x:Int×Int)=>[tD ca x.1,tD ca x.2])) (res:=(fun(x:Int×Bool)=>tT [tD ca x.1,tD rB x.2])) (f:=(fun(x:Int×Int)=>to1 x.1 x.2)) (x:=((a1.N,b.N):Int×Int)) (ht J) q_r2 ⟨(ht J),(ht J),aS⟩)<|aG J<|zo J (gE J J)<|zo J (gE J J)<|bq J<|bq J<|av<|ah<|aw<|aG J<|zo J (fj (ht J))<|aP ?_;refine ax<|c0 h rfl (fun h=>?_) (fun h=>?_)
   ·refine aw<|zo J (bY (y:=iy) aI qO bk (J))<|aq aI J an J (ht J) (ht J)<|zo J (cy)<|av<|am<|ae<|bj 6 J ?_;cases so h;exact bQ J J ⟨bt aI J J J,aZ J,aS⟩
   ·refine dP<|aw<|aG J<|bB h fun r3 q_r3 h=>zo J (aB LY (BK _ q_r3) ⟨(ht J),aS⟩)<|aq aI J an J (ht J) (ht J)<|zo J (cy)<|av<|am<|bj 6 J ?_;cases so h;exact bQ J J ⟨bt aI J J J,aZ J,aS⟩

end Go.Proofs.YtfhhakidodmdfaaGreatDoor

