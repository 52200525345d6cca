/- cX of this claim: P5. -/
import Derived.Test.YtfhhakidodmdfaaGreatDoorJhT
import Derived.Test.YtfhhakidodmdfaaGreatDoorJhP4
set_option linter.all false
namespace Go.Proofs.YtfhhakidodmdfaaGreatDoor
open Go
set_option maxRecDepth 100000

theorem JN(a1:(List (List M)))(b:(List (List M))):tU aJ 170 (fun(x:Int×(List M))=>[bu x.1,bK (ac) x.2]) (fun _=>oo a1 b) [] [bv da a1,bv da b]:=by
 refine tU.of Tryz.func170 J J J fun Sg yld s R h I yv hy e he w0 S0 B hB=>?_
 replace h:oo a1 b yld s=some R:=h
 refine ap<|zo J (bn eu J J)<|zo J (eH ge J)<|zo J (br hI)<|al<|au<|aU (k:=8) J fun hN=>bo ?_;refine aI (pQ (Z:=fun ls i e1 s1=>(a1.drop i=ls)∧I s1 e1∧jC b yld ls i s1=some R) (Of:=fun _ i e1 s1=>[e1]) (Gf:=fun _ i e1 s1=>[(0,tV yv),(2,bv da b),(8,bK (cE) a1),(9,fC a1),(10,bu (i:Int))]) (fun i e1 s1 h=>?_) (fun e2 tl ih i e1 s1 h=>?_) a1 0 e s ⟨J,⟨he,h⟩⟩) (bh J)
 ·obtain⟨hx,h⟩:=h
  obtain⟨he1,h⟩:=h
  refine aw<|ap<|zo J (dC J J)<|al<|ae<|bm (ht J) (cx hx)<|be ?_;refine af (af (aE ?_));cases so h;exact CJ J he1 hB trivial
 ·obtain⟨hx,h⟩:=h
  obtain⟨he1,h⟩:=h
  refine aw<|ap<|zo J (dC J J)<|al<|ae<|bl (ht J) (cw hx)<|cF<|ae<|au<|ap<|aB J<|zo J (gw ge dd J J J (ci hx))<|zo J (bn dd J J)<|ba J<|ba J<|al<|ap<|zo J (bn eu J J) ?_;refine zo J (eH ge J)<|zo J (br hI)<|al<|au<|aU (k:=15) J fun hN1=>bo ?_;refine aI (pQ (Z:=fun ls1 i1 e3 s2=>(b.drop i1=ls1)∧I s2 e3∧lw yld (jC b yld tl) i e2 ls1 s2=some R) (Of:=fun _ i1 e3 s2=>[e3]) (Gf:=fun _ i1 e3 s2=>[(0,tV yv),(2,bv da b),(4,bu (i:Int)),(5,bK (ac) e2),(8,bK (cE) a1),(9,fC a1),(10,bu (i:Int)),(15,bK (cE) b),(16,fC b),(17,bu (i1:Int))]) (fun i1 e3 s2 h=>?_) (fun e4 tl1 ih1 i1 e3 s2 h=>?_) b 0 e1 s1 ⟨J,⟨he1,h⟩⟩) (bh J)
  ·obtain⟨hx1,h⟩:=h
   obtain⟨he2,h⟩:=h
   refine aw<|ap<|zo J (dC J J)<|al<|ae<|bm (ht J) (cx hx1)<|be ?_;refine af (af (aE ?_));refine aj<|ak<|an<|zo rfl (iq (bW hx hN) rfl)<|aB rfl<|aL ?_;exact aT (aI (ih (i+1) e3 s2 ⟨bV hx,⟨he2,h⟩⟩) (bh J))
  ·obtain⟨hx1,h⟩:=h
   obtain⟨he2,h⟩:=h
   refine aw<|ap<|zo J (dC J J)<|al<|ae<|bl (ht J) (cw hx1)<|cF<|ae<|au<|ap<|zo J (gw ge dd J J J (ci hx1))<|zo J (bn dd J J)<|ba J<|al<|ap<|aB J<|aB J<|aB J ?_;refine aB J<|zo J (aR (r:=cE) (ys:=[e2,e4]) (xs:=[.tmp 23,.tmp 24]) ge dd J J J J J ⟨(ht J),(ht J),aP⟩)<|bp h fun r q_r h=>fe K7 (Cg _ q_r) ⟨(ht J),aP⟩ J fun l c=>eP<|dZ 26 J<|bz<|bp h fun r1 q_r1 h=>yq hy he2 q_r1 (ht J) ⟨(ht J),(gz (ht J)),aP⟩ J fun e5 he3=>zo J (cH (ht J))<|al<|bX h J (fun h=>?_) (fun h=>?_)
   ·refine ai ?_;refine aq (aa (aa (aq (aq (aa (aa (aq ?_)))))));refine bt<|aY ?_;cases so h;exact Bj J he3 hB trivial
   ·refine bi<|aj<|ak<|an<|zo rfl (iq (bW hx1 hN1) rfl)<|aB rfl<|aL<|bt<|aY ?_;exact aT (aI (ih1 (i1+1) e5 r1.2 ⟨bV hx1,⟨he3,h⟩⟩) (bh J))

theorem Hc(a1:(List (List M)))(b:(List (List M))){R:It (Int×(List M))}(h:uP a1 b=some R):tL aJ 102 [bK (cE) a1,bK (cE) b] (fun(x:Int×(List M))=>[bu x.1,bK (ac) x.2]) R:=by
 refine tL.of Tryz.func102 J J J fun w0 S0=>ap<|zo J (ff J)<|zo J (ff J)<|zo J (aD hV)<|al<|ap<|wt (O1:=[]) (cts:=[bv da a1,bv da b]) (caps:=[.tmp 2,.tmp 3]) J Pm (JN a1 b) ⟨(ht J),(ht J),aP⟩ J fun v fp=>ba J<|al<|ai ?_;cases so h;exact CH J J

theorem IU(do1:(M→M→Option (M×Int)))(a1:M)(b:M){R:M×Int}(h:pn do1 a1 b=some R):aN aJ 323 [tD ac a1,tD ac b,bv (rT ((cB aJ lC nK (fun(x:M×M)=>do1 x.1 x.2)))) ()] (tT [tD ac R.1,bu R.2]):=by
 refine aN.of Tryz.func323 J J J fun w0 S0=>ap<|zo J (ff J)<|zo J (ff J)<|aV (r:=ac) (x:=eS) aG (fun _=>aZ _) J fun b1=>zo J (bO)<|al<|ap<|zo J (mJ Kw (ht J))<|zo J (bn aG J J)<|zo J (bn aG J J)<|bp h fun r q_r h=>zo J (dz (args:=lC) (res:=wz) (f:=(fun(x:M×M)=>do1 x.1 x.2)) (x:=((b,a1):M×M)) (ht J) q_r ⟨(ht J),(ht J),aP⟩)<|zo J (eT J J)<|zo J (eT J J)<|av aG J am J (ht J) (ht J)<|aS 5 J<|ba J<|al<|ai ?_;cases so h;exact bF J J ⟨bq aG J J J,aW J,aP⟩

theorem Jh(do1:(M→M→Option (M×Int))){R:(M→M→Option (M×Int))}(h:wb do1=some R):aN aJ 261 [(cB aJ lC nK (fun(x:M×M)=>do1 x.1 x.2))] ((cB aJ lC nK (fun(x:M×M)=>R x.1 x.2))):=by
 refine aN.of Tryz.func261 J J J fun w0 S0=>ap<|zo J (sk (ht J))<|zo J (aD hV)<|al<|ap<|zo J ((show bB _ _ _ _ ((cB aJ lC nK (fun(x:M×M)=>(pn do1) x.1 x.2)))from eB (cts:=[bv (rT ((cB aJ lC nK (fun(x:M×M)=>do1 x.1 x.2)))) ()]) (caps:=[.tmp 1]) N1 ⟨(ht J),aP⟩ (fun x y h=>IU _ _ _ h)))<|ba J<|al<|ai ?_;cases so h;exact ay J J

theorem A2{R:M}(h:pZ=some R):aN aJ 216 [] (tD ac R):=by
 refine aN.of Tryz.func216 J J J fun w0 S0=>ap<|aV (r:=ac) (x:=eS) aG (fun _=>aZ _) J fun b=>al<|ap<|zo J (bM (y:=eS) aG lq aZ (J))<|av aG J am J (ht J) (ht J)<|aS 0 J<|al<|ai ?_;cases so h;exact fq J aG J J J

theorem AY(b:Bool){R:M}(h:p3 b=some R):aN aJ 256 [er b] (tD ac R):=by
 refine aN.of Tryz.func256 J J J fun w0 S0=>ap<|aV (r:=ac) (x:=eS) aG (fun _=>aZ _) J fun b1=>al<|ap<|zo J (bM (y:=Gc) aG lq aZ (⟨_,_,_,_,_,J,jK,J,hI,J⟩))<|aV (r:=ac) (x:=eS) aG (fun _=>aZ _) J fun b2=>av aG J am J (ht J) (ht J)<|al ?_;refine gv (Z:=fun v=>pf v=some R) (Of:=fun v=>[bx ac 46 b1 eS,bx ac 46 b2 v]) (Gf:=fun v=>[(2,tV (aO b1 0)),(3,tV (aO b2 0))]) (fun v h=>?_) (fun K=>?_)
 ·skip
  refine ap<|zo J (bL aG J J bG (.tail _ (.head _)) (ht J))<|av aG J am J (ht J) (ht J)<|aS 2 J<|al<|ai<|aY ?_;cases so h;exact fq J aG J J J
 ·skip
  refine ap<|aB J<|al<|bX h J (fun h=>?_) (fun h=>?_)
  ·refine an<|zo J (gQ 1 gK J J J)<|av wM J kJ J (ht J) hI<|aL<|bt ?_;exact cn (K (M.mk Gc.Kind (1:Int) Gc.U Gc.S) h) (bh J)
  ·refine bi<|bt ?_;exact cn (K Gc h) (bh J)

theorem Eu(l:(List M)){R:Int}(h:rf l=some R):aN aJ 363 [bK (ac) l] (bu R):=by
 refine aN.of Tryz.func363 J J J fun w0 S0=>ap<|zo J (bO)<|al<|ae<|ap<|aB J<|zo J (eH ns J)<|zo J (br hI)<|al<|au<|aU (k:=6) J fun hN=>bo ?_;refine aI (cN (Z:=fun ls i=>(l.drop i=ls)∧nM ls=some R) (Of:=fun _ i=>[]) (Gf:=fun _ i=>[(6,bK (ac) l),(7,fC l),(8,bu (i:Int))]) (fun i h=>?_) (fun e tl ih i h=>?_) l 0 ⟨J,h⟩) (bh J)
 ·obtain⟨hx,h⟩:=h
  refine aw<|ap<|zo J (dC J J)<|al<|ae<|bm (ht J) (cx hx)<|be ?_;refine af (af (aE ?_));refine ak<|ap<|zo rfl (bO)<|al<|ai ?_;cases so h;exact ay J J
 ·obtain⟨hx,h⟩:=h
  refine aw<|ap<|zo J (dC J J)<|al<|ae<|bl (ht J) (cw hx)<|cF<|ae<|au<|ap<|zo J (gw ns aG J J J (ci hx))<|zo J (bn aG J J)<|aV (r:=ac) (x:=eS) aG (fun _=>aZ _) J fun b=>av aG J am J (ht J) (ht J)<|aS 4 J<|al<|ap<|zo J (bn aG J J) ?_;refine bp h fun r q_r h=>zo J (ax Cm (uK _ q_r) ⟨(ht J),aP⟩)<|ba J<|al<|ap<|aB J<|zo J (pt J)<|al<|bX h J (fun h=>?_) (fun h=>?_)
  ·refine ap<|aB J<|ba J<|al<|ai ?_;refine aq (aa (aa (aq (aa ?_))));cases so h;exact ay J J
  ·refine bi<|aj<|ak<|an<|zo rfl (iq (bW hx hN) rfl)<|aB rfl<|aL ?_;exact aT (aI (ih (i+1) ⟨bV hx,h⟩) (bh J))

theorem EL(p:Int){R:Bool}(h:pp p=some R):aN aJ 153 [bu p] (er R):=by
 refine aN.of Tryz.func153 J J J fun w0 S0=>ap<|zo J (ef)<|al<|ap<|aB J<|aB J<|zo J (dc (ht J) (ht J))<|ba J<|al<|ai ?_;cases so h;exact ay J J

theorem GR(p:Int)(y:Int){R:Int}(h:m7 p y=some R):aN aJ 88 [bu p,bu y] (bu R):=by
 refine aN.of Tryz.func88 J J J fun w0 S0=>ap<|zo J (bO)<|al<|ap<|aB J<|bp h fun r q_r h=>zo J (ax K5 (EL _ q_r) ⟨(ht J),aP⟩)<|ba J<|al<|ap<|aB J<|bp h fun r1 q_r1 h=>zo J (ax K5 (EL _ q_r1) ⟨(ht J),aP⟩)<|ba J<|al<|ae<|ae ?_;refine an<|aB J<|al<|bX h J (fun h=>?_) (fun h=>?_)
 ·refine ae<|ap<|aB J<|al<|bX h J (fun h=>?_) (fun h=>?_)
  ·refine ap<|zo J (bO)<|al<|ai ?_;refine aa (aa ?_);cases so h;exact ay J J
  ·refine cF<|ap<|zo J (bO)<|al<|ai<|aa ?_;cases so h;exact ay J J
 ·refine cF<|ae<|ap<|aB J<|al<|bX h J (fun h=>?_) (fun h=>?_)
  ·refine ap<|zo J (bO)<|al<|ai<|aa ?_;cases so h;exact ay J J
  ·refine cF<|ae<|ap<|aB J<|aB J<|zo J (dC J J)<|al<|bX h J (fun h=>?_) (fun h=>?_)
   ·refine ap<|zo J (bO)<|al<|ai<|aa ?_;cases so h;exact ay J J
   ·refine cF<|ae<|ap<|aB J<|aB J<|zo J (eb (ht J) (ht J))<|al<|bX h J (fun h=>?_) (fun h=>?_)
    ·refine ap<|zo J (bO)<|al<|ai<|aa ?_;cases so h;exact ay J J
    ·refine cF<|ap<|zo J (bO)<|al<|ai ?_;cases so h;exact ay J J

theorem A3(vals:(List Int)){R:Int}(h:qB vals=some R):aN aJ 176 [iA vals] (bu R):=by
 refine aN.of Tryz.func176 J J J fun w0 S0=>ap<|zo J (bO)<|al<|ap<|zo J (bO)<|al<|ae<|ap<|aB J<|zo J (eH ed J)<|zo J (br hI)<|al<|au<|aU (k:=6) J fun hN=>bo ?_;refine aI (cN (Z:=fun ls i=>(vals.drop i=ls)∧pq ls=some R) (Of:=fun _ i=>[]) (Gf:=fun _ i=>[(3,bu 0),(6,iA vals),(7,fC vals),(8,bu (i:Int))]) (fun i h=>?_) (fun e tl ih i h=>?_) vals 0 ⟨J,h⟩) (bh J)
 ·obtain⟨hx,h⟩:=h
  refine aw<|ap<|zo J (dC J J)<|al<|ae<|bm (ht J) (cx hx)<|be ?_;refine af (af (aE ?_));refine ak<|ap<|aB rfl<|ba rfl<|al<|ai ?_;cases so h;exact ay J J
 ·obtain⟨hx,h⟩:=h
  refine aw<|ap<|zo J (dC J J)<|al<|ae<|bl (ht J) (cw hx)<|cF<|ae<|au<|ap<|zo J (gw ed bP J J J (ci hx))<|zo J (bn bP J J)<|ba J<|al<|ap<|aB J<|aB J<|zo J (dc (ht J) (ht J)) ?_;refine al<|bX h J (fun h=>?_) (fun h=>?_)
  ·refine ap<|aB J<|ba J<|al<|ai ?_;refine aq (aa (aa (aq (aa ?_))));cases so h;exact ay J J
  ·refine bi<|aj<|ak<|an<|zo rfl (iq (bW hx hN) rfl)<|aB rfl<|aL ?_;exact aT (aI (ih (i+1) ⟨bV hx,h⟩) (bh J))

theorem EA(p:Int){R:Bool}(h:m6 p=some R):aN aJ 310 [bu p] (er R):=by
 refine aN.of Tryz.func310 J J J fun w0 S0=>ap<|zo J (ef)<|al<|ap<|aB J<|aB J<|zo J (dc (ht J) (ht J))<|ba J<|al<|ai ?_;cases so h;exact ay J J

theorem EI(p:Int)(y:Int){R:Int}(h:lx p y=some R):aN aJ 243 [bu p,bu y] (bu R):=by
 refine aN.of Tryz.func243 J J J fun w0 S0=>ap<|zo J (bO)<|al<|ap<|aB J<|bp h fun r q_r h=>zo J (ax KN (EA _ q_r) ⟨(ht J),aP⟩)<|ba J<|al<|ap<|aB J<|bp h fun r1 q_r1 h=>zo J (ax KN (EA _ q_r1) ⟨(ht J),aP⟩)<|ba J<|al<|ae<|ae ?_;refine an<|aB J<|al<|bX h J (fun h=>?_) (fun h=>?_)
 ·refine ae<|ap<|aB J<|al<|bX h J (fun h=>?_) (fun h=>?_)
  ·refine ap<|zo J (bO)<|al<|ai ?_;refine aa (aa ?_);cases so h;exact ay J J
  ·refine cF<|ap<|zo J (bO)<|al<|ai<|aa ?_;cases so h;exact ay J J
 ·refine cF<|ae<|ap<|aB J<|al<|bX h J (fun h=>?_) (fun h=>?_)
  ·refine ap<|zo J (bO)<|al<|ai<|aa ?_;cases so h;exact ay J J
  ·refine cF<|ae<|ap<|aB J<|aB J<|zo J (dC J J)<|al<|bX h J (fun h=>?_) (fun h=>?_)
   ·refine ap<|zo J (bO)<|al<|ai<|aa ?_;cases so h;exact ay J J
   ·refine cF<|ae<|ap<|aB J<|aB J<|zo J (eb (ht J) (ht J))<|al<|bX h J (fun h=>?_) (fun h=>?_)
    ·refine ap<|zo J (bO)<|al<|ai<|aa ?_;cases so h;exact ay J J
    ·refine cF<|ap<|zo J (bO)<|al<|ai ?_;cases so h;exact ay J J

theorem Iv(a1:eA)(b:eA){R:Int}(h:iH a1 b=some R):aN aJ 382 [tD rS a1,tD rS b] (bu R):=by
 refine aN.of Tryz.func382 J J J fun w0 S0=>ap<|zo J (bO)<|al<|ap<|aB J<|aB J<|zo J (Id Tryz.func386 (by kernel_rfl) (by kernel_rfl) (by kernel_rfl) (by kernel_rfl) (ht J) (ht J))<|ba J<|al<|ai ?_;cases so h;exact ay J J

theorem Iw(a1:eA)(b:eA){R:Int}(h:qK a1 b=some R):aN aJ 376 [tD rS a1,tD rS b] (bu R):=by
 refine aN.of Tryz.func376 J J J fun w0 S0=>ap<|zo J (bO)<|al<|ap<|aB J<|aB J<|bp h fun r q_r h=>zo J (ax Nx (Iv _ _ q_r) ⟨(ht J),(ht J),aP⟩)<|ba J<|al<|ai ?_;cases so h;exact ay J J

theorem Iz(a1:M)(b:M){R:Int}(h:sO a1 b=some R):aN aJ 364 [tD ac a1,tD ac b] (bu R):=by
 refine aN.of Tryz.func364 J J J fun w0 S0=>ap<|zo J (ff J)<|zo J (ff J)<|zo J (bO)<|al<|ae<|ap<|zo J (bn aG J J)<|bp h fun r q_r h=>zo J (ax EU (wY _ q_r) ⟨(ht J),aP⟩)<|zo J (cH (ht J))<|aB J<|bp h fun t q_t h=>dv J J (fun hg=>bn aG J J) ?_
 obtain⟨r1,h1t,h0t⟩:=og q_t
 have q_r1g:=fun hb=>(h1t hb).1
 refine dv J J (fun hg=>ax EU (wY _ (q_r1g hg)) ⟨(bk J hg),aP⟩)<|dv J J (fun hg=>cH (bk J hg))<|zo J (dy (ht J) (fun hb=>(bk J (mU hb))) (fun hb=>(h1t hb).2) h0t)<|al<|bX h J (fun h=>?_) (fun h=>?_)
 ·refine ap<|zo J (bO)<|al<|ai<|aa ?_;cases so h;exact ay J J
 ·refine cF<|ae<|bp h fun r2 q_r2 h=>bp h fun r3 q_r3 h=>bp h fun r4 q_r4 h=>bp h fun r5 q_r5 h=>?_
  refine bZ (ts:=[_,_,_,_,_,_,_,_,_,_,_,_,_,_,_,_,_,_]) mixed J J
   ⟨dp 2 J J J (bS em bU J J),
   ⟨bH 13 0 J J J (bn bP J J),
   ⟨dp 3 J J J (bS em bU J J),
   ⟨bH 15 2 J J J (bn bP J J),
   ⟨cO 14 1 16 3 J J J J (ax Nt (GR _ _ q_r2) ⟨(ht J),(ht J),aP⟩),
   ⟨dp 2 J J J (bS gK dg J J),
   ⟨bH 18 5 J J J (bn wM J J),
   ⟨dp 3 J J J (bS gK dg J J),
   ⟨bH 20 7 J J J (bn wM J J),
   ⟨cO 19 6 21 8 J J J J (ax KX (EI _ _ q_r3) ⟨(ht J),(ht J),aP⟩),
   ⟨dp 2 J J J (bS oe gI J J),
   ⟨bH 23 10 J J J (bn sQ J J),
   ⟨dp 3 J J J (bS oe gI J J),
   ⟨bH 25 12 J J J (bn sQ J J),
   ⟨cO 24 11 26 13 J J J J (ax Nz (Iw _ _ q_r4) ⟨(ht J),(ht J),aP⟩),
   ⟨y9 17 4 22 9 27 14 J J J J J (aR (r:=bI) (ys:=[r2,r3,r4]) (xs:=[.tmp 17,.tmp 22,.tmp 27]) ed bP J J J J J ⟨(ht J),(ht J),(ht J),aP⟩),
   ⟨bH 28 15 J J J (ax Hz (A3 _ q_r5) ⟨(ht J),aP⟩),
   ⟨bH 29 16 J J J (pe J),
   aP⟩⟩⟩⟩⟩⟩⟩⟩⟩⟩⟩⟩⟩⟩⟩⟩⟩⟩ ?_
  refine ak<|ai ?_;cases so h;exact ay J J

theorem Ew(a1:M)(b:M)(is1:(Int→Option Bool)){R:M×Int}(h:ta a1 b is1=some R):aN aJ 324 [tD ac a1,tD ac b,(cB aJ Bw ib (fun(x:Int)=>is1 x))] (tT [tD ac R.1,bu R.2]):=by
 refine aN.of Tryz.func324 J J J fun w0 S0=>ap<|zo J (ff J)<|zo J (ff J)<|aV (r:=ac) (x:=eS) aG (fun _=>aZ _) J fun b1=>zo J (bO)<|al<|ae<|ap<|zo J (bn aG J J)<|zo J (bn aG J J)<|zo J (aR (r:=ac) (ys:=[a1,b]) (xs:=[.tmp 10,.tmp 11]) ns aG J J J J J ⟨(ht J),(ht J),aP⟩)<|bp h fun r q_r h=>zo J (ax KH (Eu _ q_r) ⟨(ht J),aP⟩)<|ba J<|al<|ap<|aB J<|zo J (pt J) ?_;refine al<|bX h J (fun h=>?_) (fun h=>?_)
 ·refine ap<|zo J (bM (y:=eS) aG lq aZ (J))<|aB J<|av aG J am J (ht J) (ht J)<|ba J<|al<|ai<|aa<|bg 6 J ?_;cases so h;exact bF J J ⟨bq aG J J J,aW J,aP⟩
 ·refine cF<|ap<|zo J (bS em bU J J)<|zo J (bn bP J J)<|zo J (io J)<|aB J<|dv J J (fun hg=>bS em bU J J)<|dv J J (fun hg=>bj bP J J (bk J hg))<|dv J J (fun hg=>cA (bk J hg) hI)<|zo J (qY J J)<|ba J<|al<|ae<|au<|ap<|zo J (bS em bU J J)<|zo J (bn bP J J)<|zo J (io J)<|aB J<|dv J J (fun hg=>bS em bU J J) ?_;refine dv J J (fun hg=>bj bP J J (bk J hg))<|dv J J (fun hg=>cA (bk J hg) hI)<|zo J (qY J J)<|aB J<|dv J J (fun hg=>cr J)<|dv J J (fun hg=>cH (bk J hg))<|dv J J (fun hg=>br (bk J hg))<|ga J J J J (fun hg=>bS em bU J J)<|ga J J J J (fun hg=>bj bP J J (bk J hg))<|ga J J J J (fun hg=>bS em bU J J)<|ga J J J J (fun hg=>bj bP J J (bk J hg))<|ga J J J J (fun hg=>dc (bk J hg) (bk J hg))<|dv J J (fun hg=>kL (bk J hg) (fun hb=>(bk J (q5 hg hb))))<|zo J (qY J J)<|ba J<|al<|bX h J (fun h=>?_) (fun h=>?_)
  ·refine ap<|zo J (bM (y:=eS) aG lq aZ (J))<|av aG J am J (ht J) (ht J)<|zo J (bO)<|al<|ai ?_;refine aq (aa ?_);refine bg 6 J ?_;cases so h;exact bF J J ⟨bq aG J J J,aW J,aP⟩
  ·refine ap<|aB J<|ba J<|al<|bX h J (fun h=>?_) (fun h=>?_)
   ·refine ap<|bp h fun r1 q_r1 h=>zo J (ax Hx (A2 q_r1) trivial)<|av aG J am J (ht J) (ht J)<|zo J (bO)<|al<|ai ?_;refine aq (aa ?_);refine bg 6 J ?_;cases so h;exact bF J J ⟨bq aG J J J,aW J,aP⟩
   ·refine bi<|aj<|ak<|ap<|aB rfl<|zo rfl (bn aG rfl rfl)<|zo rfl (bn aG rfl rfl)<|bp h fun r2 q_r2 h=>zo J (ax ND (Iz _ _ q_r2) ⟨(ht J),(ht J),aP⟩)<|bp h fun r3 q_r3 h=>zo J (dz (args:=(fun(x:Int)=>[tD bI x])) (res:=yH) (f:=(fun(x:Int)=>is1 x)) (x:=((r2):Int)) (ht J) q_r3 ⟨(ht J),aP⟩)<|bp h fun r4 q_r4 h=>zo J (ax Hu (AY _ q_r4) ⟨(ht J),aP⟩)<|av aG J am J (ht J) (ht J)<|zo J (bO)<|al<|ai<|bg 6 J ?_;cases so h;exact bF J J ⟨bq aG J J J,aW J,aP⟩

theorem IT(c:Int){R:Bool}(h:ud c=some R):aN aJ 325 [bu c] (er R):=by
 refine aN.of Tryz.func325 J J J fun w0 S0=>ap<|zo J (ef)<|al<|ap<|aB J<|zo J (dO (ht J) hI)<|ba J<|al<|ai ?_;cases so h;exact ay J J

theorem AX(a1:M)(b:M){R:M×Int}(h:nO a1 b=some R):aN aJ 262 [tD ac a1,tD ac b] (tT [tD ac R.1,bu R.2]):=by
 refine aN.of Tryz.func262 J J J fun w0 S0=>ap<|zo J (ff J)<|zo J (ff J)<|aV (r:=ac) (x:=eS) aG (fun _=>aZ _) J fun b1=>zo J (bO)<|al<|ap<|zo J (bn aG J J)<|zo J (bn aG J J)<|bp h fun r q_r h=>zo J (ax KJ (Ew _ _ _ q_r) ⟨(ht J),(ht J),(sr N0 fun x y h=>IT _ h),aP⟩)<|zo J (eT J J)<|zo J (eT J J)<|av aG J am J (ht J) (ht J)<|aS 4 J<|ba J<|al<|ai ?_;cases so h;exact bF J J ⟨bq aG J J J,aW J,aP⟩

theorem IS(do1:(M→Option (M×Int)))(a1:M)(x:M){R:M×Int}(h:qr do1 a1 x=some R):aN aJ 326 [tD ac a1,tD ac x,bv (rT ((cB aJ uc nK (fun(x:M)=>do1 x)))) ()] (tT [tD ac R.1,bu R.2]):=by
 refine aN.of Tryz.func326 J J J fun w0 S0=>ap<|zo J (ff J)<|zo J (ff J)<|aV (r:=ac) (x:=eS) aG (fun _=>aZ _) J fun b=>zo J (bO)<|al<|ap<|zo J (mJ M0 (ht J))<|zo J (bn aG J J)<|bp h fun r q_r h=>zo J (dz (args:=uc) (res:=wz) (f:=(fun(x:M)=>do1 x)) (x:=((a1):M)) (ht J) q_r ⟨(ht J),aP⟩)<|zo J (eT J J)<|zo J (eT J J)<|av aG J am J (ht J) (ht J)<|aS 5 J<|ba J<|al<|ai ?_;cases so h;exact bF J J ⟨bq aG J J J,aW J,aP⟩

theorem EG(do1:(M→Option (M×Int))){R:(M→M→Option (M×Int))}(h:tH do1=some R):aN aJ 263 [(cB aJ uc nK (fun(x:M)=>do1 x))] ((cB aJ lC nK (fun(x:M×M)=>R x.1 x.2))):=by
 refine aN.of Tryz.func263 J J J fun w0 S0=>ap<|zo J (sk (ht J))<|zo J (aD hV)<|al<|ap<|zo J ((show bB _ _ _ _ ((cB aJ lC nK (fun(x:M×M)=>(qr do1) x.1 x.2)))from eB (cts:=[bv (rT ((cB aJ uc nK (fun(x:M)=>do1 x)))) ()]) (caps:=[.tmp 1]) NZ ⟨(ht J),aP⟩ (fun x y h=>IS _ _ _ h)))<|ba J<|al<|ai ?_;cases so h;exact ay J J

theorem uJ(n:Int){R:M}(h:nt n=some R):aN aJ 130 [bu n] (tD ac R):=by
 refine aN.of Tryz.func130 J J J fun w0 S0=>ap<|aV (r:=ac) (x:=eS) aG (fun _=>aZ _) J fun b=>al<|ap<|aB J<|zo J (bM (y:=(⟨(2:Int),n,(0:Int),[]⟩:M)) aG lq aZ (⟨_,_,_,_,_,J,jK,J,hI,⟨_,_,_,_,_,J,kJ,J,(ht J),J⟩⟩))<|av aG J am J (ht J) (ht J)<|aS 2 J<|al<|ai ?_;cases so h;exact fq J aG J J J

theorem wV(kind:Int)(l:(List M)){R:Int}(h:pO kind l=some R):aN aJ 288 [bu kind,bK (ac) l] (bu R):=by
 refine aN.of Tryz.func288 J J J fun w0 S0=>ap<|zo J (bO)<|al<|ap<|zo J (bO)<|al<|ae<|ap<|aB J<|zo J (eH ns J)<|zo J (br hI)<|al<|au<|aU (k:=8) J fun hN=>bo ?_;refine aI (jk (Z:=fun ls i e=>(l.drop i=ls)∧nq kind ls e=some R) (Of:=fun _ i e=>[]) (Gf:=fun _ i e=>[(0,bu kind),(5,bu e),(8,bK (ac) l),(9,fC l),(10,bu (i:Int))]) (fun i e h=>?_) (fun e1 tl ih i e h=>?_) l 0 (0:Int) ⟨J,h⟩) (bh J)
 ·obtain⟨hx,h⟩:=h
  refine aw<|ap<|zo J (dC J J)<|al<|ae<|bm (ht J) (cx hx)<|be ?_;refine af (af (aE ?_));refine ak<|ap<|aB rfl<|ba rfl<|al<|ai ?_;cases so h;exact ay J J
 ·obtain⟨hx,h⟩:=h
  refine aw<|ap<|zo J (dC J J)<|al<|ae<|bl (ht J) (cw hx)<|cF<|ae<|au<|ap<|zo J (gw ns aG J J J (ci hx))<|zo J (bn aG J J)<|aV (r:=ac) (x:=eS) aG (fun _=>aZ _) J fun b=>av aG J am J (ht J) (ht J)<|aS 7 J<|al<|ae<|ap ?_;refine zo J (bn aG J J)<|bp h fun r q_r h=>zo J (ax Cm (uK _ q_r) ⟨(ht J),aP⟩)<|zo J (pt J)<|al<|bX h J (fun h=>?_) (fun h=>?_)
  ·refine ap<|zo J (bO)<|al<|ai ?_;refine aa (aq (aa (aa (aq (aa ?_)))));cases so h;exact ay J J
  ·refine cF<|ap<|zo J (bS em bU J J)<|zo J (bn bP J J)<|zo J (pt J)<|aB J<|cd J J (fun hg=>bS em bU J J)<|cd J J (fun hg=>bj bP J J (bk J hg))<|cd J J (fun hg=>cr J)<|cd J J (fun hg=>dc (bk J hg) (bk J hg))<|zo J (ms J J)<|al<|bX h J (fun h=>?_) (fun h=>?_)
   ·refine an<|zo J (bO)<|aL<|aj<|ak<|an<|zo rfl (iq (bW hx hN) rfl)<|aB rfl<|aL ?_;exact aT (aI (ih (i+1) (2:Int) ⟨bV hx,h⟩) (bh J))
   ·refine bi<|aj<|ak<|an<|zo rfl (iq (bW hx hN) rfl)<|aB rfl<|aL ?_;exact aT (aI (ih (i+1) e ⟨bV hx,h⟩) (bh J))

theorem wU(a1:M)(b:M)(to1:(Int→Int→Option (Int×Bool))){R:M×Int}(h:rZ a1 b to1=some R):aN aJ 330 [tD ac a1,tD ac b,(cB aJ (fun(x:Int×Int)=>[bu x.1,bu x.2]) (fun(x:Int×Bool)=>tT [bu x.1,er x.2]) (fun(x:Int×Int)=>to1 x.1 x.2))] (tT [tD ac R.1,bu R.2]):=by
 refine aN.of Tryz.func330 J J J fun w0 S0=>ap<|zo J (ff J)<|zo J (ff J)<|aV (r:=ac) (x:=eS) aG (fun _=>aZ _) J fun b1=>zo J (bO)<|al<|ae<|ap<|zo J (bn aG J J)<|zo J (bn aG J J)<|zo J (aR (r:=ac) (ys:=[a1,b]) (xs:=[.tmp 11,.tmp 12]) ns aG J J J J J ⟨(ht J),(ht J),aP⟩)<|bp h fun r q_r h=>zo J (ax ER (wV _ _ q_r) ⟨hI,(ht J),aP⟩)<|ba J<|al<|ap<|aB J<|zo J (pt J) ?_;refine al<|bX h J (fun h=>?_) (fun h=>?_)
 ·refine ap<|zo J (bM (y:=eS) aG lq aZ (J))<|aB J<|av aG J am J (ht J) (ht J)<|ba J<|al<|ai<|aa<|bg 6 J ?_;cases so h;exact bF J J ⟨bq aG J J J,aW J,aP⟩
 ·refine cF<|ae<|ap<|zo J (bS em bU J J)<|zo J (bn bP J J)<|zo J (io J)<|aB J<|dv J J (fun hg=>bS em bU J J)<|dv J J (fun hg=>bj bP J J (bk J hg))<|dv J J (fun hg=>cA (bk J hg) hI)<|zo J (qY J J)<|al<|bX h J (fun h=>?_) (fun h=>?_)
  ·refine ap<|bp h fun r1 q_r1 h=>zo J (ax Hx (A2 q_r1) trivial)<|av aG J am J (ht J) (ht J)<|zo J (bO)<|al<|ai<|aa<|bg 6 J ?_;cases so h;exact bF J J ⟨bq aG J J J,aW J,aP⟩
  ·refine cF<|ap<|aB J<|zo J (bS gK dg J J)<|zo J (bn wM J J)<|zo J (bS gK dg J J)<|zo J (bn wM J J)<|bp h fun r2 q_r2 h=>zo J (dz (args:=(fun(x:Int×Int)=>[tD bI x.1,tD bI x.2])) (res:=(fun(x:Int×Bool)=>tT [tD bI x.1,tD rB x.2])) (f:=(fun(x:Int×Int)=>to1 x.1 x.2)) (x:=((a1.N,b.N):Int×Int)) (ht J) q_r2 ⟨(ht J),(ht J),aP⟩)<|aB J<|zo J (eT J J)<|zo J (eT J J)<|ba J<|ba J<|al<|ae<|ap<|aB J<|zo J (cH (ht J))<|aL ?_;refine ak<|bX h rfl (fun h=>?_) (fun h=>?_)
   ·refine ap<|zo J (bM (y:=eS) aG lq aZ (J))<|av aG J am J (ht J) (ht J)<|zo J (bO)<|al<|ai<|aa<|bg 6 J ?_;cases so h;exact bF J J ⟨bq aG J J J,aW J,aP⟩
   ·refine cF<|ap<|aB J<|bp h fun r3 q_r3 h=>zo J (ax Cl (uJ _ q_r3) ⟨(ht J),aP⟩)<|av aG J am J (ht J) (ht J)<|zo J (bO)<|al<|ai<|bg 6 J ?_;cases so h;exact bF J J ⟨bq aG J J J,aW J,aP⟩

end Go.Proofs.YtfhhakidodmdfaaGreatDoor

