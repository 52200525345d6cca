/- cX of this claim: P13. -/
import Derived.Test.YtfhhakidodmdfaaGreatDoorJhT
import Derived.Test.YtfhhakidodmdfaaGreatDoorJhP12
set_option linter.all false
namespace Go.Proofs.YtfhhakidodmdfaaGreatDoor
open Go
set_option maxRecDepth 100000

theorem Mb{R:aC}(h:xY=some R):aN aJ 46 [] (tD aM R):=by
 refine aN.of Tryz.func46 J J J fun w0 S0=>ap<|aV (r:=aM) (x:=Bu) fu (fun _=>k6 _) J fun b=>al<|ap<|zo J (aR (r:=bI) (ys:=[(2:Int)]) (xs:=[.const (.int .i64 (2))]) ed bP J J J J J ⟨hI,aP⟩)<|zo J (bM (y:=(⟨(1:Int),pX,pX,(0:Int),[(2:Int)],false,vf,[],[],[],[],(0:Int)⟩:aC)) fu M7 k6 (⟨_,_,_,_,_,J,xA,J,hI,⟨_,_,_,_,_,J,xz,J,hI,⟨_,_,_,_,_,J,tk,J,hI,⟨_,_,_,_,_,J,th,J,(ht J),J⟩⟩⟩⟩))<|av fu J am J (ht J) (ht J)<|aS 0 J<|al<|ai ?_;cases so h;exact fq J fu J J J

theorem Ma(k:Int){R:cK}(h:zx k=some R):aN aJ 47 [bu k] (tD bY R):=by
 refine aN.of Tryz.func47 J J J fun w0 S0=>ap<|aV (r:=bY) (x:=vf) jg (fun _=>oM _) J fun b=>al<|ap<|aB J<|zo J (bM (y:=(⟨(2:Int),pX,pX,k,eS⟩:cu)) mE Qr ra (⟨_,_,_,_,_,J,Df,J,hI,⟨_,_,_,_,_,J,De,J,hI,⟨_,_,_,_,_,J,Dd,J,hI,⟨_,_,_,_,_,J,Dc,J,(ht J),J⟩⟩⟩⟩))<|zo J (aR (r:=bD) (ys:=[(⟨(2:Int),pX,pX,k,eS⟩:cu)]) (xs:=[.tmp 4]) t7 mE J J J J J ⟨(ht J),aP⟩)<|zo J (bM (y:=(⟨[(⟨(2:Int),pX,pX,k,eS⟩:cu)]⟩:cK)) jg LT oM (⟨_,_,_,_,_,J,sd,J,(ht J),J⟩))<|av jg J am J (ht J) (ht J)<|aS 2 J<|al<|ai ?_;cases so h;exact fq J jg J J J

theorem Ch(k:Int){R:(List M)}(h:AE k=some R):d4 aJ 101 [bu k] false ac 46 R:=by
 refine d4.of Tryz.func101 J J J fun w0 S0=>ap<|bA false ac 46<|zo J (aD mZ)<|al<|ap<|aB J<|zo J (bM (y:=(⟨(2:Int),k,(0:Int),[]⟩:M)) aG lq aZ (⟨_,_,_,_,_,J,jK,J,hI,⟨_,_,_,_,_,J,kJ,J,(ht J),J⟩⟩))<|fJ (r:=ac) (ys:=[(⟨(2:Int),k,(0:Int),[]⟩:M)]) (xs:=[.tmp 4]) lG aG J J J J J ⟨(ht J),aP⟩ J fun l c=>ba J<|al<|ai ?_;cases so h;exact d7 J J
theorem L9{R:eU}(h:v7=some R):aN aJ 48 [] (tD fN R):=by
 refine aN.of Tryz.func48 J J J fun w0 S0=>ap<|aV (r:=fN) (x:=(⟨[]⟩:eU)) Ao (fun _=>Ag _) J fun b=>al<|ap<|bp h fun r q_r h=>fe K9 (Ch _ q_r) ⟨hI,aP⟩ J fun l c=>bp h fun r1 q_r1 h=>fe K9 (Ch _ q_r1) ⟨hI,aP⟩ J fun l1 c1=>zo J (bM (y:=eS) aG lq aZ (J))<|zo J (aR (r:=ac) (ys:=[eS]) (xs:=[.tmp 3]) lG aG J J J J J ⟨(ht J),aP⟩)<|bz<|eP<|dZ 1 J<|bz<|eP<|dZ 2 J<|zo J (aR (r:=cE) (ys:=[r,r1,[eS]]) (xs:=[.tmp 1,.tmp 2,.tmp 4]) ge dd J J J J J ⟨(gz (ht J)),(gz (ht J)),(ht J),aP⟩)<|zo J (aR (r:=da) (ys:=[[r,r1,[eS]]]) (xs:=[.tmp 5]) jH eu J J J J J ⟨(ht J),aP⟩)<|zo J (bM (y:=(⟨[[r,r1,[eS]]]⟩:eU)) Ao Qs Ag (⟨_,_,_,_,_,J,Fq,J,(ht J),J⟩))<|eO ?_;refine av Ao J am J (ht J) (ht J)<|aS 0 J<|al<|ai<|aY<|aY ?_;cases so h;exact fq J Ao J J J

theorem Mw{R:Bool}(h:rJ=some R):aN aJ 11 [] (er R):=by
 refine aN.of Tryz.func11 J J J fun w0 S0=>ap<|zo J (ef)<|al<|ap<|bp h fun r q_r h=>zo J (ax QP (Mb q_r) trivial)<|zo J (bM (y:=F9) qZ M8 Ah (⟨_,_,_,_,_,J,BI,J,hI,J⟩))<|bp h fun r1 q_r1 h=>zo J (ax QO (Ma _ q_r1) ⟨hI,aP⟩)<|zo J (bM (y:=(⟨(3:Int),r1⟩:kz)) qZ M8 Ah (⟨_,_,_,_,_,J,BI,J,hI,⟨_,_,_,_,_,J,BH,J,(ht J),J⟩⟩))<|zo J (aR (r:=ej) (ys:=[F9,(⟨(3:Int),r1⟩:kz)]) (xs:=[.tmp 5,.tmp 7]) tZ qZ J J J J J ⟨(ht J),(ht J),aP⟩)<|zo J (bM (y:=(⟨(4:Int),(0:Int),pX,(0:Int),[],false,vf,[],[F9,(⟨(3:Int),r1⟩:kz)],[],[],(0:Int)⟩:aC)) fu M7 k6 (⟨_,_,_,_,_,J,xA,J,hI,⟨_,_,_,_,_,J,tk,J,hI,⟨_,_,_,_,_,J,xx,J,(ht J),J⟩⟩⟩))<|zo J (aR (r:=aM) (ys:=[r,(⟨(4:Int),(0:Int),pX,(0:Int),[],false,vf,[],[F9,(⟨(3:Int),r1⟩:kz)],[],[],(0:Int)⟩:aC)]) (xs:=[.tmp 4,.tmp 9]) t6 fu J J J J J ⟨(ht J),(ht J),aP⟩)<|zo J (bM (y:=(⟨[r,(⟨(4:Int),(0:Int),pX,(0:Int),[],false,vf,[],[F9,(⟨(3:Int),r1⟩:kz)],[],[],(0:Int)⟩:aC)]⟩:dM)) mF LU nJ (⟨_,_,_,_,_,J,C6,J,(ht J),J⟩))<|aV (r:=cT) (x:=Bv) mF (fun _=>nJ _) J fun b=>av mF J am J (ht J) (ht J)<|aS 1 J<|al<|ae ?_;refine bp h fun r2 q_r2 h=>bp h fun r3 q_r3 h=>?_
 refine bZ (ts:=[_,_,_,_,_,_,_,_]) mixed J J
  ⟨dp 1 J J J (bn mF J J),
  ⟨Fg J J (ax QN (L9 q_r2) trivial),
  ⟨cO 13 0 14 1 J J J J (ax QW (Mu _ _ q_r3) ⟨(ht J),(ht J),aP⟩),
  ⟨bH 15 2 J J J (cr J),
  ⟨bH 12 3 J J J (eT J J),
  ⟨bH 12 3 J J J (eT J J),
  ⟨bH 16 4 J J J (pe J),
  ⟨bH 17 5 J J J (pe J),
  aP⟩⟩⟩⟩⟩⟩⟩⟩ ?_
 refine ak<|ap<|aB rfl<|zo rfl (io rfl)<|aB rfl<|cd rfl rfl (fun hg=>cr J)<|cd J J (fun hg=>cD ge (bk J hg))<|cd J J (fun hg=>cA (bk J hg) hI)<|zo J (ms J J)<|aB J<|bp h fun t q_t h=>cd J J (fun hg=>cr J) ?_
 obtain⟨e,h1t,h0t⟩:=og q_t
 have q_eg:=fun hb=>(h1t hb).1
 refine cd J J (fun hg=>bf ge dd J (bk J hg) hI (q_eg hg))<|cd J J (fun hg=>bj dd J J (bk J hg))<|cd J J (fun hg=>cD lG (bk J hg))<|cd J J (fun hg=>cA (bk J hg) hI)<|zo J (cJ (ht J) (fun hb=>(bk J hb)) (fun hb=>(h1t hb).2) h0t)<|aB J<|bp h fun t1 q_t1 h=>cd J J (fun hg=>cr J) ?_
 obtain⟨e1,h1t1,h0t1⟩:=og q_t1
 have q_e1g:=fun hb=>(h1t1 hb).1
 refine cd J J (fun hg=>bf ge dd J (bk J hg) hI (q_e1g hg))<|cd J J (fun hg=>bj dd J J (bk J hg)) ?_
 obtain⟨e2,h1t1⟩:=Ep (fun hb=>(h1t1 hb).2)
 have q_e2g:=fun hb=>(h1t1 hb).1
 refine cd J J (fun hg=>bf lG aG J (bk J hg) hI (q_e2g hg))<|cd J J (fun hg=>nk gK J dg J (bk J hg))<|cd J J (fun hg=>bj wM J J (bk J hg))<|cd J J (fun hg=>cA (bk J hg) hI)<|zo J (cJ (ht J) (fun hb=>(bk J hb)) (fun hb=>(h1t1 hb).2) h0t1)<|aB J<|bp h fun t2 q_t2 h=>cd J J (fun hg=>cr J) ?_
 obtain⟨e3,h1t2,h0t2⟩:=og q_t2
 have q_e3g:=fun hb=>(h1t2 hb).1
 refine cd J J (fun hg=>bf ge dd J (bk J hg) hI (q_e3g hg))<|cd J J (fun hg=>bj dd J J (bk J hg)) ?_
 obtain⟨e4,h1t2⟩:=Ep (fun hb=>(h1t2 hb).2)
 have q_e4g:=fun hb=>(h1t2 hb).1
 refine cd J J (fun hg=>bf lG aG J (bk J hg) hI (q_e4g hg))<|cd J J (fun hg=>nk gK J dg J (bk J hg))<|cd J J (fun hg=>bj wM J J (bk J hg))<|cd J J (fun hg=>cA (bk J hg) hI)<|zo J (cJ (ht J) (fun hb=>(bk J hb)) (fun hb=>(h1t2 hb).2) h0t2)<|ba J<|al<|ai ?_;cases so h;exact ay J J

theorem Mh(l:(List (List M)))(most:Int){R:Bool}(h:ll l most=some R):aN aJ 24 [bK (cE) l,bu most] (er R):=by
 refine aN.of Tryz.func24 J J J fun w0 S0=>ap<|zo J (ef)<|al<|ae<|ap<|aB J<|zo J (eH ge J)<|aB J<|zo J (eb (ht J) (ht J))<|al<|bX h J (fun h=>?_) (fun h=>?_)
 ·refine ap<|zo J (ef)<|al<|ai<|aa ?_;cases so h;exact ay J J
 ·refine cF<|ae<|ap<|aB J<|zo J (eH ge J)<|zo J (br hI)<|al<|au<|aU (k:=13) J fun hN=>bo ?_;refine aI (cN (Z:=fun ls i=>(l.drop i=ls)∧fb ls=some R) (Of:=fun _ i=>[]) (Gf:=fun _ i=>[(13,bK (cE) l),(14,fC l),(15,bu (i:Int))]) (fun i h=>?_) (fun e tl ih i h=>?_) l 0 ⟨J,h⟩) (bh J)
  ·obtain⟨hx,h⟩:=h
   refine aw<|ap<|zo J (dC J J)<|al<|ae<|bm (ht J) (cx hx)<|be ?_;refine af (af (aE ?_));refine ak<|ap<|zo rfl (ef)<|al<|ai ?_;cases so h;exact ay J J
  ·obtain⟨hx,h⟩:=h
   refine aw<|ap<|zo J (dC J J)<|al<|ae<|bl (ht J) (cw hx)<|cF<|ae<|au<|ap<|zo J (gw ge dd J J J (ci hx))<|zo J (bn dd J J)<|ba J<|al<|ae<|ap<|aB J<|zo J (eH lG J) ?_;refine zo J (eb (ht J) hI)<|al<|bX h J (fun h=>?_) (fun h=>?_)
   ·refine ap<|zo J (ef)<|al<|ai ?_;refine aa (aq (aa (aa (aq (aa ?_)))));cases so h;exact ay J J
   ·refine cF<|ap<|aB J<|zo J (eH lG J)<|zo J (br hI)<|al<|au<|aU (k:=22) J fun hN1=>bo ?_;refine aI (cN (Z:=fun ls1 i1=>(e.drop i1=ls1)∧hX (fb tl) ls1=some R) (Of:=fun _ i1=>[]) (Gf:=fun _ i1=>[(13,bK (cE) l),(14,fC l),(15,bu (i:Int)),(22,bK (ac) e),(23,fC e),(24,bu (i1:Int))]) (fun i1 h=>?_) (fun e1 tl1 ih1 i1 h=>?_) e 0 ⟨J,h⟩) (bh J)
    ·obtain⟨hx1,h⟩:=h
     refine aw<|ap<|zo J (dC J J)<|al<|ae<|bm (ht J) (cx hx1)<|be ?_;refine af (af (aE ?_));refine aj<|ak<|an<|zo rfl (iq (bW hx hN) rfl)<|aB rfl<|aL ?_;exact aT (aI (ih (i+1) ⟨bV hx,h⟩) (bh J))
    ·obtain⟨hx1,h⟩:=h
     refine aw<|ap<|zo J (dC J J)<|al<|ae<|bl (ht J) (cw hx1)<|cF<|ae<|au<|ap<|zo J (gw lG aG J J J (ci hx1))<|zo J (bn aG J J)<|aV (r:=ac) (x:=eS) aG (fun _=>aZ _) J fun b=>av aG J am J (ht J) (ht J)<|aS 8 J<|al<|ap<|zo J (bS oe gI J J) ?_;refine zo J (bn sQ J J)<|zo J (mv mq (ht J))<|zo J (eb (ht J) hI)<|al<|bX h J (fun h=>?_) (fun h=>?_)
     ·refine ap<|zo J (ef)<|al<|ai ?_;refine aq (aa (aa (aq (aq (aa (aa (aq (aa ?_))))))));cases so h;exact ay J J
     ·refine bi<|aj<|ak<|an<|zo rfl (iq (bW hx1 hN1) rfl)<|aB rfl<|aL ?_;exact aT (aI (ih1 (i1+1) ⟨bV hx1,h⟩) (bh J))

theorem Mv(b:eU){R:Bool}(h:lm b=some R):aN aJ 12 [tD fN b] (er R):=by
 refine aN.of Tryz.func12 J J J fun w0 S0=>ap<|zo J (ff J)<|zo J (ef)<|al<|ae<|ap<|zo J (bS qo ka J J)<|zo J (bn oL J J)<|zo J (eH jH J)<|zo J (eb (ht J) hI)<|al<|bX h J (fun h=>?_) (fun h=>?_)
 ·refine ap<|zo J (ef)<|al<|ai<|aa ?_;cases so h;exact ay J J
 ·refine cF<|ae<|ap<|zo J (bS qo ka J J)<|zo J (bn oL J J)<|zo J (eH jH J)<|zo J (br hI)<|al<|au<|aU (k:=10) J fun hN=>bo ?_;refine aI (cN (Z:=fun ls i=>(b.Tables.drop i=ls)∧hY ls=some R) (Of:=fun _ i=>[]) (Gf:=fun _ i=>[(10,bK (da) b.Tables),(11,fC b.Tables),(12,bu (i:Int))]) (fun i h=>?_) (fun e tl ih i h=>?_) b.Tables 0 ⟨J,h⟩) (bh J)
  ·obtain⟨hx,h⟩:=h
   refine aw<|ap<|zo J (dC J J)<|al<|ae<|bm (ht J) (cx hx)<|be ?_;refine af (af (aE ?_));refine ak<|ap<|zo rfl (ef)<|al<|ai ?_;cases so h;exact ay J J
  ·obtain⟨hx,h⟩:=h
   refine aw<|ap<|zo J (dC J J)<|al<|ae<|bl (ht J) (cw hx)<|cF<|ae<|au<|ap<|zo J (gw jH eu J J J (ci hx))<|zo J (bn eu J J)<|ba J<|al<|ap<|aB J<|bp h fun r q_r h=>zo J (ax QT (Mh _ _ q_r) ⟨(ht J),hI,aP⟩) ?_;refine al<|bX h J (fun h=>?_) (fun h=>?_)
   ·refine ap<|zo J (ef)<|al<|ai ?_;refine aq (aa (aa (aq (aa ?_))));cases so h;exact ay J J
   ·refine bi<|aj<|ak<|an<|zo rfl (iq (bW hx hN) rfl)<|aB rfl<|aL ?_;exact aT (aI (ih (i+1) ⟨bV hx,h⟩) (bh J))

theorem Me(c:cY){R:Bool}(h:j7 c=some R):aN aJ 42 [tD fU c] (er R):=by
 refine aN.of Tryz.func42 J J J fun w0 S0=>ap<|zo J (ff J)<|zo J (ef)<|al<|ae<|ap<|zo J (bS kg du J J)<|zo J (bn sK J J)<|zo J (eH o9 J)<|zo J (eb (ht J) hI)<|al<|bX h J (fun h=>?_) (fun h=>?_)
 ·refine ap<|zo J (ef)<|al<|ai<|aa ?_;cases so h;exact ay J J
 ·refine cF<|ae<|ap<|zo J (bS kg du J J)<|zo J (bn sK J J)<|zo J (eH o9 J)<|zo J (br hI)<|al<|au<|aU (k:=12) J fun hN=>bo ?_;refine aI (cN (Z:=fun ls i=>(c.Tables.drop i=ls)∧ev ls=some R) (Of:=fun _ i=>[]) (Gf:=fun _ i=>[(12,bK (cS) c.Tables),(13,fC c.Tables),(14,bu (i:Int))]) (fun i h=>?_) (fun e tl ih i h=>?_) c.Tables 0 ⟨J,h⟩) (bh J)
  ·obtain⟨hx,h⟩:=h
   refine aw<|ap<|zo J (dC J J)<|al<|ae<|bm (ht J) (cx hx)<|be ?_;refine af (af (aE ?_));refine ak<|ap<|zo rfl (ef)<|al<|ai ?_;cases so h;exact ay J J
  ·obtain⟨hx,h⟩:=h
   refine aw<|ap<|zo J (dC J J)<|al<|ae<|bl (ht J) (cw hx)<|cF<|ae<|au<|ap<|zo J (gw o9 jw J J J (ci hx))<|zo J (bn jw J J)<|aV (r:=cS) (x:=Lh) jw (fun _=>xh _) J fun b=>av jw J am J (ht J) (ht J)<|aS 4 J<|al<|ae<|ap ?_;refine zo J (bS iy ew J J)<|zo J (bn m9 J J)<|zo J (eH nH J)<|zo J (eb (ht J) hI)<|aB J<|dv J J (fun hg=>bS o3 jR J J)<|dv J J (fun hg=>bj c0 J J (bk J hg))<|dv J J (fun hg=>cD ed (bk J hg))<|dv J J (fun hg=>eb (bk J hg) hI)<|zo J (qY J J)<|aB J<|dv J J (fun hg=>bS su lW J J)<|dv J J (fun hg=>bj sQ J J (bk J hg))<|dv J J (fun hg=>mv mq (bk J hg))<|dv J J (fun hg=>eb (bk J hg) hI)<|zo J (qY J J)<|al<|bX h J (fun h=>?_) (fun h=>?_)
   ·refine ap<|zo J (ef)<|al<|ai ?_;refine aa (aq (aa (aa (aq (aa ?_)))));cases so h;exact ay J J
   ·refine cF<|ap<|zo J (bS iy ew J J)<|zo J (bn m9 J J)<|zo J (eH nH J)<|zo J (br hI)<|al<|au<|aU (k:=35) J fun hN1=>bo ?_;refine aI (cN (Z:=fun ls1 i1=>(e.Columns.drop i1=ls1)∧f9 (ev tl) ls1=some R) (Of:=fun _ i1=>[]) (Gf:=fun _ i1=>[(12,bK (cS) c.Tables),(13,fC c.Tables),(14,bu (i:Int)),(35,bK (dm) e.Columns),(36,fC e.Columns),(37,bu (i1:Int))]) (fun i1 h=>?_) (fun e1 tl1 ih1 i1 h=>?_) e.Columns 0 ⟨J,h⟩) (bh J)
    ·obtain⟨hx1,h⟩:=h
     refine aw<|ap<|zo J (dC J J)<|al<|ae<|bm (ht J) (cx hx1)<|be ?_;refine af (af (aE ?_));refine aj<|ak<|an<|zo rfl (iq (bW hx hN) rfl)<|aB rfl<|aL ?_;exact aT (aI (ih (i+1) ⟨bV hx,h⟩) (bh J))
    ·obtain⟨hx1,h⟩:=h
     refine aw<|ap<|zo J (dC J J)<|al<|ae<|bl (ht J) (cw hx1)<|cF<|ae<|au<|ap<|zo J (gw nH iB J J J (ci hx1))<|zo J (bn iB J J)<|aV (r:=dm) (x:=Ga) iB (fun _=>pu _) J fun b1=>av iB J am J (ht J) (ht J)<|aS 6 J<|al<|ap<|zo J (bS uH mM J J) ?_;refine zo J (bn sQ J J)<|zo J (mv mq (ht J))<|zo J (eb (ht J) hI)<|al<|bX h J (fun h=>?_) (fun h=>?_)
     ·refine ap<|zo J (ef)<|al<|ai ?_;refine aq (aa (aa (aq (aq (aa (aa (aq (aa ?_))))))));cases so h;exact ay J J
     ·refine bi<|aj<|ak<|an<|zo rfl (iq (bW hx1 hN1) rfl)<|aB rfl<|aL ?_;exact aT (aI (ih1 (i1+1) ⟨bV hx1,h⟩) (bh J))

theorem Ex(c:Int){R:Bool}(h:pL c=some R):aN aJ 313 [tD (rI .i32) c] (er R):=by
 refine aN.of Tryz.func313 J J J fun w0 S0=>ap<|zo J (ef)<|al<|ap<|aB J<|zo J (dU (ht J) hI)<|aB J<|cd J J (fun hg=>cr J)<|cd J J (fun hg=>gH (bk J hg) hI)<|zo J (ms J J)<|ba J<|al<|ai ?_;cases so h;exact ay J J

theorem Ix(s:(List eA))(v:eA){R:Int}(h:gC s v=some R):aN aJ 368 [bK (rS) s,tD rS v] (bu R):=by
 refine aN.of Tryz.func368 J J J fun w0 S0=>ap<|zo J (bO)<|al<|ae<|ap<|aB J<|zo J (eH Fa J)<|zo J (br hI)<|al<|au<|aU (k:=6) J fun hN=>bo ?_;refine aI (cN (Z:=fun ls i=>(s.drop i=ls)∧dH v ls i=some R) (Of:=fun _ i=>[]) (Gf:=fun _ i=>[(0,bK (rS) s),(1,tD rS v),(7,fC s),(8,bu (i:Int))]) (fun i h=>?_) (fun e tl ih i h=>?_) s 0 ⟨J,h⟩) (bh J)
 ·obtain⟨hx,h⟩:=h
  refine aw<|ap<|zo J (dC J J)<|al<|ae<|bm (ht J) (cx hx)<|be ?_;refine af (af (aE ?_));refine ak<|ap<|zo rfl (bO)<|al<|ai ?_;cases so h;exact ay J J
 ·obtain⟨hx,h⟩:=h
  refine aw<|ap<|zo J (dC J J)<|al<|ae<|bl (ht J) (cw hx)<|cF<|ae<|au<|ap<|aB J<|ba J<|al<|ap<|aB J<|aB J<|aB J<|zo J (gw Fa sQ J J J (ci hx)) ?_;refine zo J (bn sQ J J)<|zo J (lk (ht J) (ht J))<|al<|bX h J (fun h=>?_) (fun h=>?_)
  ·refine ap<|aB J<|ba J<|al<|ai ?_;refine aq (aa (aa (aq (aa ?_))));cases so h;exact ay J J
  ·refine bi<|aj<|ak<|an<|zo rfl (iq (bW hx hN) rfl)<|aB rfl<|aL ?_;exact aT (aI (ih (i+1) ⟨bV hx,h⟩) (bh J))

theorem IC(s:(List eA))(v:eA){R:Bool}(h:fD s v=some R):aN aJ 354 [bK (rS) s,tD rS v] (er R):=by
 refine aN.of Tryz.func354 J J J fun w0 S0=>ap<|zo J (ef)<|al<|ap<|aB J<|aB J<|bp h fun r q_r h=>zo J (ax NA (Ix _ _ q_r) ⟨(ht J),(ht J),aP⟩)<|zo J (dU (ht J) hI)<|ba J<|al<|ai ?_;cases so h;exact ay J J

theorem I2(s:eA){R:Bool}(h:qh s=some R):aN aJ 314 [tD rS s] (er R):=by
 refine aN.of Tryz.func314 J J J fun w0 S0=>ap<|zo J (ef)<|al<|ap<|zo J (vO (r:=lF rS 28) (x:=M5) gm1 gr1 (Fu Tryz.underlying327 sQ J GK))<|aB J<|bp h fun r q_r h=>zo J (ax NI (IC _ _ q_r) ⟨(ht J),(ht J),aP⟩)<|ba J<|al<|ai ?_;cases so h;exact ay J J

theorem I1(s:eA){R:eA}(h:fS s=some R):aN aJ 315 [tD rS s] (tD rS R):=by
 unfold fS at h
 split at h
 ·rename_i hl
  cases h
  refine Cr fun w hw=>?_
  have:=Any.strings_ToUpper_any pr upX ⟨s.toArray⟩ w (by rw [EW];exact hl) hw.1 hw.2
  simp only [List.toList_toArray]at this
  exact this
 ·cases h

theorem I0(c:Int){R:Bool}(h:sm c=some R):aN aJ 316 [tD (rI .i32) c] (er R):=by
 refine aN.of Tryz.func316 J J J fun w0 S0=>ap<|zo J (ef)<|al<|ap<|aB J<|zo J (dU (ht J) hI)<|aB J<|cd J J (fun hg=>cr J)<|cd J J (fun hg=>gH (bk J hg) hI)<|zo J (ms J J)<|ba J<|al<|ai ?_;cases so h;exact ay J J

theorem A1(s:eA){R:Bool}(h:lT s=some R):aN aJ 246 [tD rS s] (er R):=by
 refine aN.of Tryz.func246 J J J fun w0 S0=>ap<|zo J (ef)<|al<|ae<|ap<|aB J<|zo J (lk (ht J) hS)<|aB J<|dv J J (fun hg=>cr J)<|dv J J (fun hg=>mv mq (bk J hg))<|dv J J (fun hg=>eb (bk J hg) hI)<|zo J (qY J J)<|aB J<|bp h fun t q_t h=>dv J J (fun hg=>cr J) ?_
 obtain⟨b,h1t,h0t⟩:=og q_t
 have q_bg:=fun hb=>(h1t hb).1
 refine dv J J (fun hg=>nA mq (bk J hg) hI (q_bg hg))<|dv J J (fun hg=>mw F8 Tryz.underlying21 (bk J hg)) ?_
 obtain⟨r,h1t⟩:=Ep (fun hb=>(h1t hb).2)
 have q_rg:=fun hb=>(h1t hb).1
 refine dv J J (fun hg=>ax KK (Ex _ (q_rg hg)) ⟨(bk J hg),aP⟩)<|dv J J (fun hg=>cH (bk J hg))<|zo J (dy (ht J) (fun hb=>(bk J (mU hb))) (fun hb=>(h1t hb).2) h0t)<|aB J<|bp h fun t1 q_t1 h=>dv J J (fun hg=>cr J) ?_
 obtain⟨r1,h1t1,h0t1⟩:=og q_t1
 have q_r1g:=fun hb=>(h1t1 hb).1
 refine dv J J (fun hg=>ax N9 (I1 _ (q_r1g hg)) ⟨(bk J hg),aP⟩) ?_
 obtain⟨r2,h1t1⟩:=Ep (fun hb=>(h1t1 hb).2)
 have q_r2g:=fun hb=>(h1t1 hb).1
 refine dv J J (fun hg=>ax Oa (I2 _ (q_r2g hg)) ⟨(bk J hg),aP⟩)<|zo J (dy (ht J) (fun hb=>(bk J (mU hb))) (fun hb=>(h1t1 hb).2) h0t1)<|al<|bX h J (fun h=>?_) (fun h=>?_)
 ·refine ap<|zo J (ef)<|al<|ai<|aa ?_;cases so h;exact ay J J
 ·refine cF<|ae<|ap<|aB J<|Ct mq (ht J) J fun rg=>al<|au<|bo ?_;refine aI (MH (β:=Int×Int) (Z:=fun ls=>kx ls=some R) (Of:=fun ls=>[yM rg s ls]) (Gf:=[(25,tV (aO rg 0))]) (fun ls h ih=>?_) (BL s) h) (bh J);refine aw<|ap ?_;refine D1 (ht J) J (fun hl=>?_) (fun e tl hk=>?_)
  ·subst hl
   refine zo J (AD (ht J))<|al<|ae<|bm (ht J) J<|be ?_;refine af (af (aE ?_));refine ak<|ap<|zo rfl (ef)<|al<|ai<|aY ?_;cases so h;exact ay J J
  ·subst hk
   refine zo J (sV (i:=0) J (ht J))<|al<|ae<|bl (ht J) J<|cF<|au<|ap<|zo J (sV (i:=2) J (ht J))<|ba J<|al<|ap<|aB J<|bp h fun r3 q_r3 h=>zo J (ax N8 (I0 _ q_r3) ⟨(ht J),aP⟩)<|zo J (cH (ht J))<|aB J<|bp h fun t2 q_t2 h=>cd J J (fun hg=>cr J) ?_
   obtain⟨r4,h1t2,h0t2⟩:=og q_t2
   have q_r4g:=fun hb=>(h1t2 hb).1
   refine cd J J (fun hg=>ax KK (Ex _ (q_r4g hg)) ⟨(bk J hg),aP⟩)<|cd J J (fun hg=>cH (bk J hg))<|zo J (cJ (ht J) (fun hb=>(bk J hb)) (fun hb=>(h1t2 hb).2) h0t2)<|aB J<|cd J J (fun hg=>cr J)<|cd J J (fun hg=>dc (bk J hg) hI)<|zo J (ms J J)<|al<|bX h J (fun h=>?_) (fun h=>?_)
   ·refine ap<|zo J (ef)<|al<|ai ?_;refine aq (aa (aq (aa ?_)));refine aY ?_;cases so h;exact ay J J
   ·refine bi<|aj ?_;exact aT (aI (ih tl (by simp) h) (bh J))

theorem IB(s:(List bC))(f:(bC→Option Bool)){R:Int}(h:d8 s f=some R):aN aJ 361 [bK (dm) s,(cB aJ wy ib (fun(x:bC)=>f x))] (bu R):=by
 refine aN.of Tryz.func361 J J J fun w0 S0=>ap<|zo J (bO)<|al<|ae<|ap<|aB J<|zo J (eH nH J)<|zo J (br hI)<|al<|au<|aU (k:=6) J fun hN=>bo ?_;refine aI (cN (Z:=fun ls i=>(s.drop i=ls)∧bQ f ls i=some R) (Of:=fun _ i=>[]) (Gf:=fun _ i=>[(0,bK (dm) s),(1,(cB aJ wy ib (fun(x:bC)=>f x))),(7,fC s),(8,bu (i:Int))]) (fun i h=>?_) (fun e tl ih i h=>?_) s 0 ⟨J,h⟩) (bh J)
 ·obtain⟨hx,h⟩:=h
  refine aw<|ap<|zo J (dC J J)<|al<|ae<|bm (ht J) (cx hx)<|be ?_;refine af (af (aE ?_));refine ak<|ap<|zo rfl (bO)<|al<|ai ?_;cases so h;exact ay J J
 ·obtain⟨hx,h⟩:=h
  refine aw<|ap<|zo J (dC J J)<|al<|ae<|bl (ht J) (cw hx)<|cF<|ae<|au<|ap<|aB J<|ba J<|al<|ap<|aB J<|aB J<|aB J<|zo J (gw nH iB J J J (ci hx)) ?_;refine zo J (bn iB J J)<|bp h fun r q_r h=>zo J (dz (args:=wy) (res:=yH) (f:=(fun(x:bC)=>f x)) (x:=((e):bC)) (ht J) q_r ⟨(ht J),aP⟩)<|al<|bX h J (fun h=>?_) (fun h=>?_)
  ·refine ap<|aB J<|ba J<|al<|ai ?_;refine aq (aa (aa (aq (aa ?_))));cases so h;exact ay J J
  ·refine bi<|aj<|ak<|an<|zo rfl (iq (bW hx hN) rfl)<|aB rfl<|aL ?_;exact aT (aI (ih (i+1) ⟨bV hx,h⟩) (bh J))

theorem IA(of:(bC→Option eA))(name:eA)(p:bC){R:Bool}(h:dI of name p=some R):aN aJ 362 [tD dm p,bv (rT ((cB aJ wy sJ (fun(x:bC)=>of x)))) (),bv rS name] (er R):=by
 refine aN.of Tryz.func362 J J J fun w0 S0=>ap<|zo J (ff J)<|zo J (ef)<|al<|ae<|bp h fun r q_r h=>?_
 refine bZ (ts:=[_,_,_,_,_,_]) mixed J J
  ⟨dp 1 J J J (mJ MX (ht J)),
  ⟨dp 3 J J J (bn iB J J),
  ⟨cO 5 0 6 1 J J J J (dz (args:=wy) (res:=sJ) (f:=(fun(x:bC)=>of x)) (x:=((p):bC)) (ht J) q_r ⟨(ht J),aP⟩),
  ⟨dp 2 J J J (bn sQ J J),
  ⟨cO 7 2 8 3 J J J J (lk (ht J) (ht J)),
  ⟨bH 9 4 J J J (pe J),
  aP⟩⟩⟩⟩⟩⟩ ?_
 refine ak<|ai ?_;cases so h;exact ay J J

theorem IZ(l:(List bC))(of:(bC→Option eA))(name:eA){R:Int×Bool}(h:fP l of name=some R):aN aJ 317 [bK (dm) l,(cB aJ wy sJ (fun(x:bC)=>of x)),tD rS name] (tT [bu R.1,er R.2]):=by
 refine aN.of Tryz.func317 J J J fun w0 S0=>ap<|zo J (sk (ht J))<|zo J (ff J)<|zo J (bO)<|zo J (ef)<|al<|ap<|aB J<|zo J ((show bB _ _ _ _ ((cB aJ wy ib (fun(x:bC)=>(dI of name) x)))from eB (cts:=[bv (rT ((cB aJ wy sJ (fun(x:bC)=>of x)))) (),bv rS name]) (caps:=[.tmp 4,.tmp 5]) NF ⟨(ht J),(ht J),aP⟩ (fun x y h=>IA _ _ _ h)))<|bp h fun r q_r h=>zo J (ax NH (IB _ _ q_r) ⟨(ht J),(ht J),aP⟩)<|ba J<|al<|ap<|aB J<|zo J (wP (ht J) hI)<|aB J<|zo J (dU (ht J) hI) ?_;refine ba J<|ba J<|al<|ai ?_;cases so h;exact ca J J J

theorem Jr(l:(List bC))(of:(bC→Option eA)){R:Bool}(h:iM l of=some R):aN aJ 247 [bK (dm) l,(cB aJ wy sJ (fun(x:bC)=>of x))] (er R):=by
 refine aN.of Tryz.func247 J J J fun w0 S0=>ap<|zo J (ef)<|al<|ae<|ap<|aB J<|zo J (eH nH J)<|zo J (br hI)<|al<|au<|aU (k:=9) J fun hN=>bo ?_;refine aI (cN (Z:=fun ls i=>(l.drop i=ls)∧ec l of ls i=some R) (Of:=fun _ i=>[]) (Gf:=fun _ i=>[(0,bK (dm) l),(1,(cB aJ wy sJ (fun(x:bC)=>of x))),(9,bK (dm) l),(10,fC l),(11,bu (i:Int))]) (fun i h=>?_) (fun e tl ih i h=>?_) l 0 ⟨J,h⟩) (bh J)
 ·obtain⟨hx,h⟩:=h
  refine aw<|ap<|zo J (dC J J)<|al<|ae<|bm (ht J) (cx hx)<|be ?_;refine af (af (aE ?_));refine ak<|ap<|zo rfl (ef)<|al<|ai ?_;cases so h;exact ay J J
 ·obtain⟨hx,h⟩:=h
  refine aw<|ap<|zo J (dC J J)<|al<|ae<|bl (ht J) (cw hx)<|cF<|ae<|au<|ap<|aB J<|zo J (gw nH iB J J J (ci hx))<|zo J (bn iB J J)<|aV (r:=dm) (x:=Ga) iB (fun _=>pu _) J fun b=>ba J<|av iB J am J (ht J) (ht J)<|aS 6 J<|al<|ae ?_;refine an<|aB J<|aB J<|aB J<|zo J (bn iB J J)<|bp h fun r q_r h=>zo J (dz (args:=wy) (res:=sJ) (f:=(fun(x:bC)=>of x)) (x:=((e):bC)) (ht J) q_r ⟨(ht J),aP⟩)<|bp h fun r1 q_r1 h=>zo J (ax N7 (IZ _ _ _ q_r1) ⟨(ht J),(ht J),(ht J),aP⟩)<|aB J<|zo J (eT J J)<|zo J (eT J J)<|ba J<|ba J<|al<|ap<|aB J<|aB J<|zo J (dc (ht J) (ht J))<|aB J<|bp h fun t q_t h=>dv J J (fun hg=>cr J) ?_;refine dv J J (fun hg=>bn iB J J) ?_
  obtain⟨r2,h1t,h0t⟩:=og q_t
  have q_r2g:=fun hb=>(h1t hb).1
  refine dv J J (fun hg=>dz (args:=wy) (res:=sJ) (f:=(fun(x:bC)=>of x)) (x:=((e):bC)) (bk J hg) (q_r2g hg) ⟨(bk J hg),aP⟩) ?_
  obtain⟨r3,h1t⟩:=Ep (fun hb=>(h1t hb).2)
  have q_r3g:=fun hb=>(h1t hb).1
  refine dv J J (fun hg=>ax Hw (A1 _ (q_r3g hg)) ⟨(bk J hg),aP⟩)<|dv J J (fun hg=>cH (bk J hg))<|zo J (dy (ht J) (fun hb=>(bk J (mU hb))) (fun hb=>(h1t hb).2) h0t)<|al<|bX h J (fun h=>?_) (fun h=>?_)
  ·refine ap<|zo J (ef)<|al<|ai ?_;refine aq (aa (aa (aq (aa ?_))));cases so h;exact ay J J
  ·refine bi<|aj<|ak<|an<|zo rfl (iq (bW hx hN) rfl)<|aB rfl<|aL ?_;exact aT (aI (ih (i+1) ⟨bV hx,h⟩) (bh J))

theorem Jq(c:bC){R:eA}(h:dK c=some R):aN aJ 248 [tD dm c] (tD rS R):=by
 refine aN.of Tryz.func248 J J J fun w0 S0=>ap<|zo J (ff J)<|zo J (aD hS)<|al<|ap<|zo J (bS uH mM J J)<|zo J (bn sQ J J)<|ba J<|al<|ai ?_;cases so h;exact ay J J

theorem Jp(kind:Int){R:eA}(h:np kind=some R):aN aJ 249 [bu kind] (tD rS R):=by
 refine aN.of Tryz.func249 J J J fun w0 S0=>ap<|zo J (aD hS)<|al<|ae<|ap<|zo J (vO (r:=(lF p7 3)) (x:=LR) gm0 gr0 (bj MW J J GK))<|zo J (br hI)<|al<|au<|bo ?_;refine aI (E2 (Z:=fun k i=>(3-i=k)∧fV kind k i=some R) (Of:=fun _ i=>[]) (Gf:=fun _ i=>[(0,bu kind),(5,tD (lF p7 3) LR),(6,bu (i:Int))]) (fun i h=>?_) (fun k1 ih i h=>?_) 3 0 ⟨J,h⟩) (bh J)
 ·obtain⟨hx,h⟩:=h
  refine aw<|ap<|zo J (dO (ht J) hI)<|al<|ae<|bm (ht J) (LO hx)<|be ?_;refine af (af (aE ?_));refine ak<|ap<|zo rfl (aD hS)<|al<|ai ?_;cases so h;exact ay J J
 ·obtain⟨hx,h⟩:=h
  refine aw<|ap<|zo J (dO (ht J) hI)<|al<|ae<|bl (ht J) (LN hx)<|cF<|ae<|au<|ap<|bp h fun e1 q_e1 h=>zo J (Fw Tryz.underlying304 Gi J J (ht J) (ht J) q_e1)<|aV (r:=p7) (x:=(⟨[],(0:Int)⟩:yz)) Gi (fun _=>HT _) J fun b=>av Gi J am J (ht J) (ht J)<|aS 4 J<|al<|ap<|zo J (bS Io FF J J) ?_;refine zo J (bn bP J J)<|aB J<|zo J (cA (ht J) (ht J))<|al<|bX h J (fun h=>?_) (fun h=>?_)
  ·refine ap<|zo J (bS Ip FG J J)<|zo J (bn sQ J J)<|ba J<|al<|ai ?_;refine aq (aa (aa (aq (aa ?_))));cases so h;exact ay J J
  ·refine bi<|aj<|ak<|an<|zo rfl (sj (GB hx (by decide)) (ht rfl) hI)<|aB rfl<|aL ?_;exact aT (aI (ih (i+1) ⟨GA hx,h⟩) (bh J))

end Go.Proofs.YtfhhakidodmdfaaGreatDoor

