/- co of this claim: P6. -/
import Derived.Test.YtmogpgcfognefaaGreatDoorNeT
import Derived.Test.YtmogpgcfognefaaGreatDoorNeP5
set_option linter.all false
namespace Go.Proofs.YtmogpgcfognefaaGreatDoor
open Go
set_option maxRecDepth 100000

theorem QA(s:(List bu))(f:(bu→Option Bool)){R:Bool}(h:eZ s f=some R):aN aM 107 [d7 (dO) s,(dJ aM xu mr (fun(x:bu)=>f x))] (gK R):=by
 refine aN.of Tryz.func107 J J J fun w0 S0=>aq<|zo J (fJ)<|an<|aq<|aA J<|aA J<|bF h fun r q_r h=>zo J (aD RQ (JE _ _ q_r) ⟨(ht J),(ht J),aU⟩)<|zo J (dQ (ht J) hI)<|bk J<|an<|aj ?_;cases so h;exact aB J J

theorem Pj(of:(bu→Option im))(name:im)(p:bu){R:Bool}(h:eI of name p=some R):aN aM 231 [tD dO p,bq (rT ((dJ aM xu we (fun(x:bu)=>of x)))) (),bq rS name] (gK R):=by
 refine aN.of Tryz.func231 J J J fun w0 S0=>aq<|zo J (jh J)<|zo J (fJ)<|an<|ae<|bF h fun r q_r h=>?_
 refine eG (ts:=[_,_,_,_,_,_]) mixed J J
  ⟨ia 1 J J J (q5 Uq (ht J)),
  ⟨ia 3 J J J (bz s6 J J),
  ⟨ft 5 0 6 1 J J J J (ej (args:=xu) (res:=we) (f:=(fun(x:bu)=>of x)) (x:=((p):bu)) (ht J) q_r ⟨(ht J),aU⟩),
  ⟨ia 2 J J J (bz ED J J),
  ⟨ft 7 2 8 3 J J J J (AV (ht J) (ht J)),
  ⟨cO 9 4 J J J (zM J),
  aU⟩⟩⟩⟩⟩⟩ ?_
 refine au<|aj ?_;cases so h;exact aB J J

theorem PT(l:(List bu))(of:(bu→Option im))(name:im){R:Int×Bool}(h:iW l of name=some R):aN aM 174 [d7 (dO) l,(dJ aM xu we (fun(x:bu)=>of x)),tD rS name] (tT [bH R.1,gK R.2]):=by
 refine aN.of Tryz.func174 J J J fun w0 S0=>aq<|zo J (xQ (ht J))<|zo J (jh J)<|zo J (cQ)<|zo J (fJ)<|an<|aq<|aA J<|zo J ((show bS _ _ _ _ ((dJ aM xu mr (fun(x:bu)=>(eI of name) x)))from eJ (cts:=[bq (rT ((dJ aM xu we (fun(x:bu)=>of x)))) (),bq rS name]) (caps:=[.tmp 4,.tmp 5]) VE ⟨(ht J),(ht J),aU⟩ (fun x y h=>Pj _ _ _ h)))<|bF h fun r q_r h=>zo J (aD RQ (JE _ _ q_r) ⟨(ht J),(ht J),aU⟩)<|bk J<|an<|aq<|aA J<|zo J (xO (ht J) hI)<|aA J<|zo J (dQ (ht J) hI) ?_;refine bk J<|bk J<|an<|aj ?_;cases so h;exact d5 J J J

theorem Qz(l:(List bu))(of:(bu→Option im)){R:Bool}(h:kU l of=some R):aN aM 108 [d7 (dO) l,(dJ aM xu we (fun(x:bu)=>of x))] (gK R):=by
 refine aN.of Tryz.func108 J J J fun w0 S0=>aq<|zo J (fJ)<|an<|ae<|aq<|aA J<|zo J (ja CJ J)<|zo J (bl hI)<|an<|ax<|aV (k:=9) J fun hN=>bB ?_;refine aJ (d6 (Z:=fun ls i=>(l.drop i=ls)∧fH l of ls i=some R) (Of:=fun _ i=>[]) (Gf:=fun _ i=>[(0,d7 (dO) l),(1,(dJ aM xu we (fun(x:bu)=>of x))),(9,d7 (dO) l),(10,hM l),(11,bH (i:Int))]) (fun i h=>?_) (fun e tl ih i h=>?_) l 0 ⟨J,h⟩) (aZ J)
 ·obtain⟨hx,h⟩:=h
  refine av<|aq<|zo J (eK J J)<|an<|ae<|bp (ht J) (cW hx)<|bg ?_;refine ac (ac (aF ?_));refine au<|aq<|zo rfl (fJ)<|an<|aj ?_;cases so h;exact aB J J
 ·obtain⟨hx,h⟩:=h
  refine av<|aq<|zo J (eK J J)<|an<|ae<|bo (ht J) (cU hx)<|dA<|ae<|ax<|aq<|aA J<|zo J (iX CJ s6 J J J (cP hx))<|zo J (bz s6 J J)<|aO (r:=dO) (x:=(⟨[],[],[]⟩:bu)) s6 (fun _=>FU _) J fun b=>bk J<|ay s6 J ap J (ht J) (ht J)<|aL 6 J<|an<|ae ?_;refine ai<|aA J<|aA J<|aA J<|zo J (bz s6 J J)<|bF h fun r q_r h=>zo J (ej (args:=xu) (res:=we) (f:=(fun(x:bu)=>of x)) (x:=((e):bu)) (ht J) q_r ⟨(ht J),aU⟩)<|bF h fun r1 q_r1 h=>zo J (aD Wg (PT _ _ _ q_r1) ⟨(ht J),(ht J),(ht J),aU⟩)<|aA J<|zo J (hY J J)<|zo J (hY J J)<|bk J<|bk J<|an<|aq<|aA J<|aA J<|zo J (dg (ht J) (ht J))<|aA J<|bF h fun t q_t h=>cN J J (fun hg=>cL J) ?_;refine cN J J (fun hg=>bz s6 J J) ?_
  obtain⟨r2,h1t,h0t⟩:=og q_t
  have q_r2g:=fun hb=>(h1t hb).1
  refine cN J J (fun hg=>ej (args:=xu) (res:=we) (f:=(fun(x:bu)=>of x)) (x:=((e):bu)) (aS J hg) (q_r2g hg) ⟨(aS J hg),aU⟩) ?_
  obtain⟨r3,h1t⟩:=OG (fun hb=>(h1t hb).2)
  have q_r3g:=fun hb=>(h1t hb).1
  refine cN J J (fun hg=>aD Nx (Fj _ (q_r3g hg)) ⟨(aS J hg),aU⟩)<|cN J J (fun hg=>dH (aS J hg))<|zo J (fi (ht J) (fun hb=>(aS J (oL hb))) (fun hb=>(h1t hb).2) h0t)<|an<|cX h J (fun h=>?_) (fun h=>?_)
  ·refine aq<|zo J (fJ)<|an<|aj ?_;refine aC (aa (aa (aC (aa ?_))));cases so h;exact aB J J
  ·refine bA<|am<|au<|ai<|zo rfl (jU (cz hx hN) rfl)<|aA rfl<|aH ?_;exact aT (aJ (ih (i+1) ⟨cy hx,h⟩) (aZ J))

theorem Qy(t:bu){R:im}(h:eX t=some R):aN aM 109 [tD dO t] (tD rS R):=by
 refine aN.of Tryz.func109 J J J fun w0 S0=>aq<|zo J (jh J)<|zo J (bm hS)<|an<|aq<|zo J (cd M5 B5 J J)<|zo J (bz ED J J)<|bk J<|an<|aj ?_;cases so h;exact aB J J

theorem Tw(c:cn){R:Int}(h:lE c=some R):aN aM 59 [tD cH c] (bH R):=by
 refine aN.of Tryz.func59 J J J fun w0 S0=>aq<|zo J (jh J)<|zo J (cQ)<|an<|aq<|zo J (bm (show aE _ _ _ ((dJ aM xu mr (fun(x:bu)=>jH x)))from(sj WW fun x y h=>QC _ h)))<|an<|ae<|aq<|zo J (cd zj mD J J)<|zo J (bz Kx J J)<|zo J (ja CJ J)<|zo J (gx (ht J) hI)<|aA J<|bF h fun t q_t h=>cN J J (fun hg=>cd zj mD J J)<|cN J J (fun hg=>aY Kx J J (aS J hg))<|cN J J (fun hg=>cL J) ?_
 obtain⟨r,h1t,h0t⟩:=og q_t
 have q_rg:=fun hb=>(h1t hb).1
 refine cN J J (fun hg=>aD WU (QA _ _ (q_rg hg)) ⟨(aS J hg),(aS J hg),aU⟩)<|zo J (fi (ht J) (fun hb=>(aS J (oL hb))) (fun hb=>(h1t hb).2) h0t)<|aA J<|bF h fun t1 q_t1 h=>cN J J (fun hg=>cd zj mD J J)<|cN J J (fun hg=>aY Kx J J (aS J hg)) ?_
 obtain⟨r1,h1t1,h0t1⟩:=og q_t1
 have q_r1g:=fun hb=>(h1t1 hb).1
 refine cN J J (fun hg=>aD WT (Qz _ _ (q_r1g hg)) ⟨(aS J hg),(sj WS fun x y h=>Qy _ h),aU⟩)<|cN J J (fun hg=>dH (aS J hg))<|zo J (fi (ht J) (fun hb=>(aS J (oL hb))) (fun hb=>(h1t1 hb).2) h0t1)<|an<|cX h J (fun h=>?_) (fun h=>?_)
 ·refine aq<|zo J (cQ)<|an<|aj<|aa ?_;cases so h;exact aB J J
 ·refine dA<|aq<|zo J (cQ)<|an<|aj ?_;cases so h;exact aB J J

theorem Qo(root:(List Int))(c:Int){R:Bool}(h:iM root c=some R):aN aM 137 [bH c,bq iv root] (gK R):=by
 refine aN.of Tryz.func137 J J J fun w0 S0=>aq<|zo J (fJ)<|an<|aq<|aA J<|zo J (dI (ht J) hI)<|aA J<|cN J J (fun hg=>cL J)<|cN J J (fun hg=>bz ce J J)<|cN J J (fun hg=>bN dm (aS J hg))<|cN J J (fun hg=>dQ (aS J hg) (aS J hg))<|zo J (pZ J J)<|aA J<|bF h fun t q_t h=>cN J J (fun hg=>bz ce J J)<|cN J J (fun hg=>cL J) ?_
 obtain⟨e,h1t,h0t⟩:=og q_t
 have q_eg:=fun hb=>(h1t hb).1
 refine cN J J (fun hg=>bX dm bJ J (aS J hg) (aS J hg) (q_eg hg))<|cN J J (fun hg=>aY bJ J J (aS J hg))<|cN J J (fun hg=>bK (aS J hg) hI)<|zo J (fi (ht J) (fun hb=>(aS J (oL hb))) (fun hb=>(h1t hb).2) h0t)<|bk J<|an<|aj ?_;cases so h;exact aB J J

theorem JH(s:(List aK))(f:(aK→Option Bool)){R:Int}(h:ec s f=some R):aN aM 150 [d7 (aW) s,(dJ aM Kp mr (fun(x:aK)=>f x))] (bH R):=by
 refine aN.of Tryz.func150 J J J fun w0 S0=>aq<|zo J (cQ)<|an<|ae<|aq<|aA J<|zo J (ja qy J)<|zo J (bl hI)<|an<|ax<|aV (k:=6) J fun hN=>bB ?_;refine aJ (d6 (Z:=fun ls i=>(s.drop i=ls)∧cR f ls i=some R) (Of:=fun _ i=>[]) (Gf:=fun _ i=>[(0,d7 (aW) s),(1,(dJ aM Kp mr (fun(x:aK)=>f x))),(7,hM s),(8,bH (i:Int))]) (fun i h=>?_) (fun e tl ih i h=>?_) s 0 ⟨J,h⟩) (aZ J)
 ·obtain⟨hx,h⟩:=h
  refine av<|aq<|zo J (eK J J)<|an<|ae<|bp (ht J) (cW hx)<|bg ?_;refine ac (ac (aF ?_));refine au<|aq<|zo rfl (cQ)<|an<|aj ?_;cases so h;exact aB J J
 ·obtain⟨hx,h⟩:=h
  refine av<|aq<|zo J (eK J J)<|an<|ae<|bo (ht J) (cU hx)<|dA<|ae<|ax<|aq<|aA J<|bk J<|an<|aq<|aA J<|aA J<|aA J<|zo J (iX qy eC J J J (cP hx)) ?_;refine zo J (bz eC J J)<|bF h fun r q_r h=>zo J (ej (args:=Kp) (res:=Av) (f:=(fun(x:aK)=>f x)) (x:=((e):aK)) (ht J) q_r ⟨(ht J),aU⟩)<|an<|cX h J (fun h=>?_) (fun h=>?_)
  ·refine aq<|aA J<|bk J<|an<|aj ?_;refine aC (aa (aa (aC (aa ?_))));cases so h;exact aB J J
  ·refine bA<|am<|au<|ai<|zo rfl (jU (cz hx hN) rfl)<|aA rfl<|aH ?_;exact aT (aJ (ih (i+1) ⟨cy hx,h⟩) (aZ J))

theorem Qn(s:(List aK))(f:(aK→Option Bool)){R:Bool}(h:cS s f=some R):aN aM 138 [d7 (aW) s,(dJ aM Kp mr (fun(x:aK)=>f x))] (gK R):=by
 refine aN.of Tryz.func138 J J J fun w0 S0=>aq<|zo J (fJ)<|an<|aq<|aA J<|aA J<|bF h fun r q_r h=>zo J (aD RT (JH _ _ q_r) ⟨(ht J),(ht J),aU⟩)<|zo J (dQ (ht J) hI)<|bk J<|an<|aj ?_;cases so h;exact aB J J

theorem Ql(s1:(List Int))(s2:(List bw))(eq:(Int→bw→Option Bool)){R:Bool}(h:fP s1 s2 eq=some R):aN aM 140 [kz s1,d7 (cB) s2,(dJ aM (fun(x:Int×bw)=>[bH x.1,tD cB x.2]) mr (fun(x:Int×bw)=>eq x.1 x.2))] (gK R):=by
 refine aN.of Tryz.func140 J J J fun w0 S0=>aq<|zo J (fJ)<|an<|ae<|aq<|aA J<|zo J (ja dm J)<|aA J<|zo J (ja xj J)<|zo J (dg (ht J) (ht J))<|an<|cX h J (fun h=>?_) (fun h=>?_)
 ·refine aq<|zo J (fJ)<|an<|aj<|aa ?_;cases so h;exact aB J J
 ·refine dA<|ae<|aq<|aA J<|zo J (ja dm J)<|zo J (bl hI)<|an<|ax<|aV (k:=15) J fun hN=>bB ?_;refine aJ (d6 (Z:=fun ls i=>(s1.drop i=ls)∧dG s2 eq ls i=some R) (Of:=fun _ i=>[]) (Gf:=fun _ i=>[(1,d7 (cB) s2),(2,(dJ aM (fun(x:Int×bw)=>[bH x.1,tD cB x.2]) mr (fun(x:Int×bw)=>eq x.1 x.2))),(15,kz s1),(16,hM s1),(17,bH (i:Int))]) (fun i h=>?_) (fun e tl ih i h=>?_) s1 0 ⟨J,h⟩) (aZ J)
  ·obtain⟨hx,h⟩:=h
   refine av<|aq<|zo J (eK J J)<|an<|ae<|bp (ht J) (cW hx)<|bg ?_;refine ac (ac (aF ?_));refine au<|aq<|zo rfl (fJ)<|an<|aj ?_;cases so h;exact aB J J
  ·obtain⟨hx,h⟩:=h
   refine av<|aq<|zo J (eK J J)<|an<|ae<|bo (ht J) (cU hx)<|dA<|ae<|ax<|aq<|aA J<|zo J (iX dm bJ J J J (cP hx))<|zo J (bz bJ J J)<|bk J<|bk J<|an<|aq<|aA J ?_;refine aA J<|bF h fun e1 q_e1 h=>zo J (iX xj p8 J J J q_e1)<|zo J (bz p8 J J)<|aO (r:=cB) (x:=Sf) p8 (fun _=>qm _) J fun b=>ay p8 J ap J (ht J) (ht J)<|aL 9 J<|an<|aq<|aA J<|aA J<|zo J (bz p8 J J)<|bF h fun r q_r h=>zo J (ej (args:=(fun(x:Int×bw)=>[tD bQ x.1,tD cB x.2])) (res:=Av) (f:=(fun(x:Int×bw)=>eq x.1 x.2)) (x:=((e,e1):Int×bw)) (ht J) q_r ⟨(ht J),(ht J),aU⟩)<|zo J (dH (ht J))<|an<|cX h J (fun h=>?_) (fun h=>?_)
   ·refine aq<|zo J (fJ)<|an<|aj ?_;refine aC (aa (aa (aC (aa ?_))));cases so h;exact aB J J
   ·refine bA<|am<|au<|ai<|zo rfl (jU (cz hx hN) rfl)<|aA rfl<|aH ?_;exact aT (aJ (ih (i+1) ⟨cy hx,h⟩) (aZ J))

theorem Qk(k:Int)(c:bw){R:Bool}(h:ow k c=some R):aN aM 141 [bH k,tD cB c] (gK R):=by
 refine aN.of Tryz.func141 J J J fun w0 S0=>aq<|zo J (jh J)<|zo J (fJ)<|an<|aq<|aA J<|zo J (cd M4 z8 J J)<|zo J (bz bJ J J)<|zo J (bK (ht J) (ht J))<|bk J<|an<|aj ?_;cases so h;exact aB J J

theorem Qm(f:gJ)(p:(Option cj))(n:aK){R:Bool}(h:iL f p n=some R):aN aM 139 [tD aW n,bq cM f,bq oy p] (gK R):=by
 refine aN.of Tryz.func139 J J J fun w0 S0=>aq<|zo J (jh J)<|zo J (fJ)<|an<|ae<|aq<|zo J (cd iq da J J)<|zo J (bz bJ J J)<|zo J (rn J)<|an<|cX h J (fun h=>?_) (fun h=>?_)
 ·refine aq<|zo J (fJ)<|an<|aj<|aa ?_;cases so h;exact aB J J
 ·refine dA<|ae<|ae<|bF h fun t q_t h=>?_
  obtain⟨p1,h1t,h0t⟩:=og q_t
  have q_p1g:=fun hb=>(h1t hb).1
  refine eG (ts:=[_,_,_,_,_,_,_,_,_,_,_,_,_,_]) mixed J J
   ⟨ia 1 J J J (cd w8 oS J J),
   ⟨cO 8 0 J J J (bz bJ J J),
   ⟨cO 9 1 J J J (rn J),
   ⟨cO 10 2 J J J (cL J),
   ⟨qD 3 11 3 J J J J (iu J J J J (fun hg=>cd pL iF J J)),
   ⟨hZ 12 4 11 3 J J J J (iu J J J J (fun hg=>aY bJ J J (aS J hg))),
   ⟨qD 2 11 3 J J J J (iu J J J J (fun hg=>bz wo J J)),
   ⟨hZ 14 6 11 3 J J J J (iu J J J J (fun hg=>eV (aS J hg) (q_p1g hg))),
   ⟨hZ 15 7 11 3 J J J J (iu J J J J (fun hg=>dh Ff J tB J (aS J hg))),
   ⟨hZ 16 8 11 3 J J J J (iu J J J J (fun hg=>dh zj J mD J (aS J hg))),
   ⟨hZ 17 9 11 3 J J J J (iu J J J J (fun hg=>aY Kx J J (aS J hg))),
   ⟨hZ 18 10 11 3 J J J J (iu J J J J (fun hg=>bN CJ (aS J hg))),
   ⟨wl 13 5 19 11 11 3 J J J J J (iu J J J J (fun hg=>dQ (aS J hg) (aS J hg))),
   ⟨ft 11 3 20 12 J J J J (fi (ht J) (fun hb=>(aS J (oL hb))) (fun hb=>(h1t hb).2) h0t),
   aU⟩⟩⟩⟩⟩⟩⟩⟩⟩⟩⟩⟩⟩⟩ ?_
  refine au<|cX h rfl (fun h=>?_) (fun h=>?_)
  ·refine aq<|zo J (fJ)<|an<|aj<|aa ?_;cases so h;exact aB J J
  ·refine dA<|ae<|bF h fun p2 q_p2 h=>bF h fun e q_e h=>bF h fun r q_r h=>?_
   refine eG (ts:=[_,_,_,_,_,_,_,_,_,_,_,_,_,_,_]) mixed J J
    ⟨ia 3 J J J (cd rf jp J J),
    ⟨cO 22 0 J J J (bz ce J J),
    ⟨ia 2 J J J (bz wo J J),
    ⟨cO 24 2 J J J (eV (ht J) q_p2),
    ⟨cO 25 3 J J J (cd Ff tB J J),
    ⟨cO 26 4 J J J (cd zj mD J J),
    ⟨cO 27 5 J J J (bz Kx J J),
    ⟨ia 3 J J J (cd pL iF J J),
    ⟨cO 29 7 J J J (bz bJ J J),
    ⟨ft 28 6 30 8 J J J J (iX CJ s6 J J J q_e),
    ⟨cO 31 9 J J J (cd u9 oP J J),
    ⟨cO 32 10 J J J (bz F4 J J),
    ⟨ft 23 1 33 11 J J J J (aD WA (Ql _ _ _ q_r) ⟨(ht J),(ht J),(sj Wz fun x y h=>Qk _ _ h),aU⟩),
    ⟨cO 34 12 J J J (dH (ht J)),
    ⟨cO 35 13 J J J (zM J),
    aU⟩⟩⟩⟩⟩⟩⟩⟩⟩⟩⟩⟩⟩⟩⟩ ?_
   refine au<|aj ?_;cases so h;exact aB J J

theorem Tn(p:(Option cj))(f:gJ)(root:(List Int)){R:Bool}(h:gw p f root=some R):aN aM 73 [tD oy p,tD cM f,kz root] (gK R):=by
 refine aN.of Tryz.func73 J J J fun w0 S0=>aq<|zo J (jh J)<|zo J (jh J)<|zo J (jh J)<|zo J (fJ)<|an<|ae<|aq<|zo J (cd w8 oS J J)<|zo J (bz bJ J J)<|zo J (rn J)<|aA J<|bO J J (fun hg=>cd w8 oS J J)<|bO J J (fun hg=>aY bJ J J (aS J hg))<|bO J J (fun hg=>dg (aS J hg) hI)<|zo J (la J J)<|aA J<|cN J J (fun hg=>cd va ny J J)<|cN J J (fun hg=>aY bJ J J (aS J hg))<|cN J J (fun hg=>dI (aS J hg) hI) ?_;refine zo J (pZ J J)<|aA J<|cN J J (fun hg=>cd va ny J J)<|cN J J (fun hg=>aY bJ J J (aS J hg))<|cN J J (fun hg=>gx (aS J hg) hI)<|zo J (pZ J J)<|aA J<|cN J J (fun hg=>cd va ny J J)<|cN J J (fun hg=>aY bJ J J (aS J hg))<|cN J J (fun hg=>bK (aS J hg) hI)<|cN J J (fun hg=>cd Fc vR J J)<|cN J J (fun hg=>aY ce J J (aS J hg))<|cN J J (fun hg=>bN dm (aS J hg))<|cN J J (fun hg=>gx (aS J hg) hI)<|cN J J (fun hg=>EY Di (aS J hg) (aS J hg))<|zo J (pZ J J)<|aA J<|cN J J (fun hg=>cd Fc vR J J)<|cN J J (fun hg=>aY ce J J (aS J hg))<|cN J J (fun hg=>bN dm (aS J hg))<|cN J J (fun hg=>gx (aS J hg) hI)<|zo J (pZ J J)<|an ?_;refine cX h J (fun h=>?_) (fun h=>?_)
 ·refine aq<|zo J (fJ)<|an<|aj<|aa ?_;cases so h;exact aB J J
 ·refine dA<|ae<|aq<|zo J (cd Fc vR J J)<|zo J (bz ce J J)<|zo J ((show bS _ _ _ _ ((dJ aM Au mr (fun(x:Int)=>(iM root) x)))from eJ (cts:=[bq iv root]) (caps:=[.tmp 5]) WD ⟨(ht J),aU⟩ (fun x y h=>Qo _ _ h)))<|bF h fun r q_r h=>zo J (aD Ec (vS _ _ q_r) ⟨(ht J),(ht J),aU⟩)<|an<|cX h J (fun h=>?_) (fun h=>?_)
  ·refine aq<|zo J (fJ)<|an<|aj<|aa ?_;cases so h;exact aB J J
  ·refine dA<|aq<|zo J (cd tF mC J J)<|zo J (bz AB J J)<|zo J ((show bS _ _ _ _ ((dJ aM Kp mr (fun(x:aK)=>(iL f p) x)))from eJ (cts:=[bq cM f,bq oy p]) (caps:=[.tmp 4,.tmp 3]) WB ⟨(ht J),(ht J),aU⟩ (fun x y h=>Qm _ _ _ h)))<|bF h fun r1 q_r1 h=>zo J (aD WC (Qn _ _ q_r1) ⟨(ht J),(ht J),aU⟩)<|zo J (dH (ht J))<|bk J<|an<|aj ?_;cases so h;exact aB J J

theorem Tf(p:hJ)(from1:Int):Cz aM 82 Sj (fun _=>sd p from1) [] [bq dK p,bq bQ from1]:=by
 refine Cz.of Tryz.func82 J J J fun Sg yld s R h I yv hy e he w0 S0 B hB=>?_
 replace h:sd p from1 yld s=some R:=h
 refine aq<|zo J (cd ni gX J J)<|zo J (bz wO J J)<|zo J (ja su J)<|zo J (bl hI)<|an<|ax<|aV (k:=9) J fun hN=>bB ?_;refine aJ (rm (Z:=fun ls i e1 s1=>(p.Frags.drop i=ls)∧I s1 e1∧jf from1 yld ls i s1=some R) (Of:=fun _ i e1 s1=>[e1]) (Gf:=fun _ i e1 s1=>[(0,tV yv),(2,bq bQ from1),(9,d7 (cM) p.Frags),(10,hM p.Frags),(11,bH (i:Int))]) (fun i e1 s1 h=>?_) (fun e2 tl ih i e1 s1 h=>?_) p.Frags 0 e s ⟨J,⟨he,h⟩⟩) (aZ J)
 ·obtain⟨hx,h⟩:=h
  obtain⟨he1,h⟩:=h
  refine av<|aq<|zo J (eK J J)<|an<|ae<|bp (ht J) (cW hx)<|bg ?_;refine ac (ac (aF ?_));cases so h;exact NT J he1 hB trivial
 ·obtain⟨hx,h⟩:=h
  obtain⟨he1,h⟩:=h
  refine av<|aq<|zo J (eK J J)<|an<|ae<|bo (ht J) (cU hx)<|dA<|ae<|ax<|aq<|aA J<|zo J (iX su lg J J J (cP hx))<|zo J (bz lg J J)<|aO (r:=cM) (x:=Ex) lg (fun _=>nI _) J fun b=>bk J<|ay lg J ap J (ht J) (ht J)<|aL 5 J<|an<|ae ?_;refine ai<|zo J (cd tF mC J J)<|zo J (bz AB J J)<|zo J (ja qy J)<|zo J (bl hI)<|an<|ax<|aV (k:=17) J fun hN1=>bB ?_;refine aJ (rm (Z:=fun ls1 i1 e3 s2=>(e2.Nodes.drop i1=ls1)∧I s2 e3∧je from1 yld (jf from1 yld tl) i ls1 i1 s2=some R) (Of:=fun _ i1 e3 s2=>[e3]) (Gf:=fun _ i1 e3 s2=>[(0,tV yv),(2,bq bQ from1),(4,bH (i:Int)),(9,d7 (cM) p.Frags),(10,hM p.Frags),(11,bH (i:Int)),(17,d7 (aW) e2.Nodes),(18,hM e2.Nodes),(19,bH (i1:Int))]) (fun i1 e3 s2 h=>?_) (fun e4 tl1 ih1 i1 e3 s2 h=>?_) e2.Nodes 0 e1 s1 ⟨J,⟨he1,h⟩⟩) (aZ J)
  ·obtain⟨hx1,h⟩:=h
   obtain⟨he2,h⟩:=h
   refine av<|aq<|zo J (eK J J)<|an<|ae<|bp (ht J) (cW hx1)<|bg ?_;refine ac (ac (aF ?_));refine am<|au<|ai<|zo rfl (jU (cz hx hN) rfl)<|aA rfl<|aH ?_;exact aT (aJ (ih (i+1) e3 s2 ⟨cy hx,⟨he2,h⟩⟩) (aZ J))
  ·obtain⟨hx1,h⟩:=h
   obtain⟨he2,h⟩:=h
   refine av<|aq<|zo J (eK J J)<|an<|ae<|bo (ht J) (cU hx1)<|dA<|ae<|ax<|aq<|aA J<|zo J (iX qy eC J J J (cP hx1))<|zo J (bz eC J J)<|aO (r:=aW) (x:=Dj) eC (fun _=>fE _) J fun b1=>bk J<|ay eC J ap J (ht J) (ht J)<|aL 7 J<|an<|ae ?_;refine ai<|zo J (cd iq da J J)<|zo J (bz bJ J J)<|zo J (jy J)<|aA J<|bO J J (fun hg=>cd pL iF J J)<|bO J J (fun hg=>aY bJ J J (aS J hg))<|bO J J (fun hg=>bz bJ J J)<|bO J J (fun hg=>bK (aS J hg) (aS J hg))<|zo J (la J J)<|aA J ?_;refine He ((e4.Op==(9:Int))&&(e4.Table==from1)) (fun hg=>?_) (fun hg=>?_)
   ·have h:=ct h hg;refine yu J J J hg<|aA J<|yu J J J hg<|aA J<|yu J J J hg<|aA J<|yu J J J hg<|bF h fun r q_r h=>NK hy he2 q_r (ht J) ⟨(ht J),(ht J),aU⟩ J fun e5 he3=>yu J J J hg<|zo J (dH (ht J))<|zo J (y7 (ht J) hg (ht J))<|an<|cX h J (fun h=>?_) (fun h=>?_)
    ·refine aj ?_;refine aC (aa (aa (aC (aC (aa (aa (aC ?_)))))));cases so h;exact Ki J he3 hB trivial
    ·refine bA<|am<|au<|ai<|zo rfl (jU (cz hx1 hN1) rfl)<|aA rfl<|aH ?_;exact aT (aJ (ih1 (i1+1) e5 r.2 ⟨cy hx1,⟨he3,h⟩⟩) (aZ J))
   ·have h:=cf h hg;refine nl J J J hg J<|nl J J J hg J<|nl J J J hg J<|nl J J J hg J<|nl J J J hg J<|zo J (DE (ht J) hg XB)<|an<|oj (ht J) (fun hc=>?_) (fun hc=>?_)
    ·cases hc
    ·refine bA<|am<|au<|ai<|zo rfl (jU (cz hx1 hN1) rfl)<|aA rfl<|aH ?_;exact aT (aJ (ih1 (i1+1) e3 s2 ⟨cy hx1,⟨he2,h⟩⟩) (aZ J))

theorem Jr(p:hJ)(from1:Int){R:It (Int×Int)}(h:pu p from1=some R):Cr aM 45 [tD dK p,bH from1] Sj R:=by
 refine Cr.of Tryz.func45 J J J fun w0 S0=>aq<|zo J (jh J)<|zo J (jh J)<|zo J (bm hV)<|an<|aq<|Hi (O1:=[]) (cts:=[bq dK p,bq bQ from1]) (caps:=[.tmp 2,.tmp 3]) J X4 (Tf p from1) ⟨(ht J),(ht J),aU⟩ J fun v fp=>bk J<|an<|aj ?_;cases so h;exact NR J J

theorem JJ(s1:(List Int))(s2:(List Int)){R:Bool}(h:ga s1 s2=some R):aN aM 142 [kz s1,kz s2] (gK R):=by
 refine aN.of Tryz.func142 J J J fun w0 S0=>aq<|zo J (fJ)<|an<|ae<|aq<|aA J<|zo J (ja dm J)<|aA J<|zo J (ja dm J)<|zo J (dg (ht J) (ht J))<|an<|cX h J (fun h=>?_) (fun h=>?_)
 ·refine aq<|zo J (fJ)<|an<|aj<|aa ?_;cases so h;exact aB J J
 ·refine dA<|ae<|aq<|aA J<|zo J (ja dm J)<|zo J (bl hI)<|an<|ax<|aV (k:=11) J fun hN=>bB ?_;refine aJ (d6 (Z:=fun ls i=>(s1.drop i=ls)∧fb s2 ls i=some R) (Of:=fun _ i=>[]) (Gf:=fun _ i=>[(0,kz s1),(1,kz s2),(12,hM s1),(13,bH (i:Int))]) (fun i h=>?_) (fun e tl ih i h=>?_) s1 0 ⟨J,h⟩) (aZ J)
  ·obtain⟨hx,h⟩:=h
   refine av<|aq<|zo J (eK J J)<|an<|ae<|bp (ht J) (cW hx)<|bg ?_;refine ac (ac (aF ?_));refine au<|aq<|zo rfl (fJ)<|an<|aj ?_;cases so h;exact aB J J
  ·obtain⟨hx,h⟩:=h
   refine av<|aq<|zo J (eK J J)<|an<|ae<|bo (ht J) (cU hx)<|dA<|ae<|ax<|aq<|aA J<|bk J<|an<|ae<|bF h fun e1 q_e1 h=>?_
   refine eG (ts:=[_,_,_,_,_,_,_,_,_]) mixed J J
    ⟨ia 0 J J J (cL J),
    ⟨ia 5 J J J (cL J),
    ⟨ft 16 0 17 1 J J J J (iX dm bJ J J J (cP hx)),
    ⟨cO 18 2 J J J (bz bJ J J),
    ⟨ia 1 J J J (cL J),
    ⟨ia 5 J J J (cL J),
    ⟨ft 20 4 21 5 J J J J (iX dm bJ J J J q_e1),
    ⟨cO 22 6 J J J (bz bJ J J),
    ⟨ft 19 3 23 7 J J J J (dg (ht J) (ht J)),
    aU⟩⟩⟩⟩⟩⟩⟩⟩⟩ ?_
   refine au<|cX h rfl (fun h=>?_) (fun h=>?_)
   ·refine aq<|zo J (fJ)<|an<|aj ?_;refine aC (aa (aa (aC (aa ?_))));cases so h;exact aB J J
   ·refine bA<|am<|au<|ai<|zo rfl (jU (cz hx hN) rfl)<|aA rfl<|aH ?_;exact aT (aJ (ih (i+1) ⟨cy hx,h⟩) (aZ J))

theorem JI(p:(Option cj))(frag:Int){R:(List Int)}(h:lS p frag=some R):aN aM 143 [tD oy p,bH frag] (kz R):=by
 refine aN.of Tryz.func143 J J J fun w0 S0=>aq<|zo J (bm (show aE _ _ _ (kz ([]))from uf))<|an<|aq<|aA J<|bF h fun p1 q_p1 h=>zo J (eV (ht J) q_p1)<|zo J (cd AZ ya J J)<|zo J (bz I2 J J)<|aA J<|bF h fun e q_e h=>zo J (iX Tryz.underlying161 CS J J J q_e)<|zo J (bz CS J J)<|bk J<|an<|aq<|aA J<|aA J ?_;refine zo J (ja uh J)<|zo J (fK (ht J) hI)<|bF h fun e1 q_e1 h=>zo J (iX uh ce J J J q_e1)<|zo J (bz ce J J)<|bk J<|an<|aj ?_;cases so h;exact aB J J

theorem Tm(p:(Option cj))(at1:Int){R:Bool}(h:kM p at1=some R):aN aM 74 [tD oy p,bH at1] (gK R):=by
 refine Hd Tryz.func74 J J J fun w0 S0=>aq<|zo J (jh J)<|zo J (fJ)<|an<|aq<|zo J (bz wo J J)<|bF h fun p1 q_p1 h=>zo J (eV (ht J) q_p1)<|zo J (cd pg ij J J)<|zo J (cd ni gX J J)<|zo J (bz wO J J)<|aA J<|bF h fun e q_e h=>zo J (iX su lg J J J q_e)<|zo J (bz lg J J)<|aO (r:=cM) (x:=Ex) lg (fun _=>nI _) J fun b=>ay lg J ap J (ht J) (ht J)<|aL 5 J<|an ?_;refine ae<|aq<|zo J (cd tF mC J J)<|zo J (bz AB J J)<|zo J (ja qy J)<|zo J (bl hI)<|an<|ax<|aV (k:=20) J fun hN=>bB ?_;refine aJ (d6 (Z:=fun ls i=>(e.Nodes.drop i=ls)∧dC p at1 e ls=some R) (Of:=fun _ i=>[]) (Gf:=fun _ i=>[(1,bH at1),(2,bq oy p),(5,bq cM e),(20,d7 (aW) e.Nodes),(21,hM e.Nodes),(22,bH (i:Int))]) (fun i h=>?_) (fun e1 tl ih i h=>?_) e.Nodes 0 ⟨J,h⟩) (aZ J)
 ·obtain⟨hx,h⟩:=h
  refine av<|aq<|zo J (eK J J)<|an<|ae<|bp (ht J) (cW hx)<|bg ?_;refine ac (ac (aF ?_));refine au<|aq<|aO (r:=bQ) (x:=(0:Int)) bJ (fun _=>J) J fun b1=>aO (r:=rB) (x:=false) LU (fun _=>J) J fun b2=>bD<|ay bJ J ap J (ht J) hI<|bD<|ay LU J ap J (ht J) hB<|an<|ae<|aq<|zo J (bz wo J J)<|bF h fun p2 q_p2 h=>zo J (eV (ht J) q_p2)<|zo J (cd pg ij J J)<|zo J (bz rW J J)<|aA J<|bF h fun it q_it h=>Eg Vi (Jr _ _ q_it) ⟨(ht J),(ht J),aU⟩ J fun v fp=>an ?_;refine ax<|bF h fun s q_s h=>?_;refine LL (fun(i:Bool×Int)=>[bx rB 4 b2 i.1,bx bQ 3 b1 i.2]) (fun(i:Bool×Int)=>(i.1,i.2)) J (ht J) (false,(0:Int)) J q_s (fun _=>J) J (fun i x s2 h lp rec1 _ _ _=>?_) (fun i hi bd=>?_)
  ·obtain⟨one,many⟩:=i
   replace h:js p x one many=some s2:=h
   refine(show CG _ _ _ [tp lp rec1 .ready,bx rB 4 b2 one,bx bQ 3 b1 many] _ from ?_);refine IQ (G' :=[(1,bH at1),(2,bq oy p),(5,bq cM e),(8,tV (aI b1 0)),(9,tV (aI b2 0)),(20,d7 (aW) e.Nodes),(21,hM e.Nodes),(22,bH (i:Int)),(23,gK (decide ((i:Int)<(e.Nodes.length:Int)))),(46,tD oy p),(47,bq fX p2),(48,bq dK p2.Plan),(49,tD dK p2.Plan),(50,bH at1),(52,bH x.1),(53,bH x.2)]) ?_ ⟨J,J,J,J,J,J,J,J,J,J,J,J,J,J,J,J,aU⟩;refine ai<|bk J<|aH<|NV<|ax<|aq<|zo J (br bJ J J cF (.tail _ (.tail _ (.head _))) (ht J))<|zo J (jZ (ht J) hI)<|jg<|ay bJ J ap J (ht J) (ht J)<|an<|ai<|zo J (bz wo J J)<|bF h fun p3 q_p3 h=>zo J (eV (ht J) q_p3)<|zo J (cd pg ij J J)<|zo J (cd ni gX J J)<|zo J (bz wO J J)<|aA J<|bF h fun e2 q_e2 h=>zo J (iX su lg J J J q_e2)<|zo J (cd w8 oS J J) ?_;refine zo J (bz bJ J J)<|zo J (jy J)<|jg<|ay LU J ap J (ht J) (ht J)<|aH<|am<|aX<|aX<|aR ?_;exact Hs ((e2.At==(2:Int)),(IntKind.i64.wrap (many+(1:Int)))) (so h) J
  ·skip
   obtain⟨x1,x2⟩:=i
   have hi:(x1,x2)=s:=hi
   subst hi
   dsimp only at h
   refine(show AT _ _ _ [FJ bd,bx rB 4 b2 x1,bx bQ 3 b1 x2] _ from ?_);refine bL (G' :=[(1,bH at1),(2,bq oy p),(5,bq cM e),(8,tV (aI b1 0)),(9,tV (aI b2 0)),(20,d7 (aW) e.Nodes),(21,hM e.Nodes),(22,bH (i:Int)),(23,gK (decide ((i:Int)<(e.Nodes.length:Int)))),(46,tD oy p),(47,bq fX p2),(48,bq dK p2.Plan),(49,tD dK p2.Plan),(50,bH at1)]) ?_ ⟨J,J,J,J,J,J,J,J,J,J,J,J,J,J,aU⟩;refine am<|au<|ae<|aq<|aA rfl<|zo rfl (bz wo rfl rfl)<|bF h fun p4 q_p4 h=>zo J (eV (ht J) q_p4)<|zo J (cd pg ij J J)<|zo J (cd ni gX J J)<|zo J (bz wO J J)<|zo J (ja su J)<|zo J (fK (ht J) hI)<|zo J (bK (ht J) (ht J))<|an<|cX h J (fun h=>?_) (fun h=>?_)
   ·refine aq<|zo J (cd va ny J J)<|zo J (bz bJ J J)<|zo J (jy J)<|aA J<|bO J J (fun hg=>cd w8 oS J J)<|bO J J (fun hg=>aY bJ J J (aS J hg))<|bO J J (fun hg=>bK (aS J hg) hI)<|zo J (la J J)<|aA J<|bO J J (fun hg=>br bJ J J cF (.tail _ (.tail _ (.head _))) (ht J))<|bO J J (fun hg=>bK (aS J hg) hI)<|zo J (la J J)<|aA J<|bF h fun t q_t h=>bO J J (fun hg=>bz wo J J)<|bO J J (fun hg=>cL J) ?_
    obtain⟨r,h1t,h0t⟩:=og q_t
    have q_rg:=fun hb=>(h1t hb).1
    refine bO J J (fun hg=>aD RU (JI _ _ (q_rg hg)) ⟨(aS J hg),(aS J hg),aU⟩) ?_
    obtain⟨r1,h1t⟩:=OG (fun hb=>(h1t hb).2)
    have q_r1g:=fun hb=>(h1t hb).1
    refine bO J J (fun hg=>aD TU (Iw _ _ (q_r1g hg)) ⟨(aS J hg),hI,aU⟩)<|bO J J (fun hg=>dH (aS J hg))<|zo J (dF (ht J) (fun hb=>(aS J hb)) (fun hb=>(h1t hb).2) h0t)<|bk J<|an<|aj<|aa<|aX<|ba<|aX<|ba<|Ba<|vu ?_;cases so h;exact aB J J
   ·refine dA<|aq<|zo J (cd va ny J J)<|zo J (bz bJ J J)<|zo J (rn J)<|aA J<|bO J J (fun hg=>br bJ J J cF (.tail _ (.tail _ (.head _))) (ht J))<|bO J J (fun hg=>bK (aS J hg) hI)<|zo J (la J J)<|aA J<|bO J J (fun hg=>cd va ny J J)<|bO J J (fun hg=>aY bJ J J (aS J hg))<|bO J J (fun hg=>bK (aS J hg) hI)<|bO J J (fun hg=>br LU J J cF (.tail _ (.head _)) (ht J))<|bO J J (fun hg=>Jf Di (aS J hg) (aS J hg))<|zo J (la J J)<|bk J<|an<|aj<|aX<|ba ?_;refine aX<|ba<|Ba<|vu ?_;cases so h;exact aB J J
 ·obtain⟨hx,h⟩:=h
  refine av<|aq<|zo J (eK J J)<|an<|ae<|bo (ht J) (cU hx)<|dA<|ae<|ax<|aq<|zo J (iX qy eC J J J (cP hx))<|zo J (bz eC J J)<|aO (r:=aW) (x:=Dj) eC (fun _=>fE _) J fun b3=>ay eC J ap J (ht J) (ht J)<|aL 7 J<|an<|ae<|bF h fun t1 q_t1 h=>?_
  obtain⟨t2,h1t1,h0t1⟩:=og q_t1
  have q_t2g:=fun hb=>(h1t1 hb).1
  obtain⟨r2,h1t2,h0t2⟩:=og3 q_t2g
  have q_r2g:=fun hb=>(h1t2 hb).1
  obtain⟨r3,h1t2⟩:=OG (fun hb=>(h1t2 hb).2)
  have q_r3g:=fun hb=>(h1t2 hb).1
  refine eG (ts:=[_,_,_,_,_,_,_,_,_,_,_,_,_,_,_,_,_,_,_]) mixed J J
   ⟨ia 7 J J J (cd iq da J J),
   ⟨cO 26 0 J J J (bz bJ J J),
   ⟨cO 27 1 J J J (jy J),
   ⟨cO 28 2 J J J (cL J),
   ⟨qD 7 29 3 J J J J (db J J J J (fun hg=>cd pL iF J J)),
   ⟨hZ 30 4 29 3 J J J J (db J J J J (fun hg=>aY bJ J J (aS J hg))),
   ⟨qD 1 29 3 J J J J (db J J J J (fun hg=>cL J)),
   ⟨wl 31 5 32 6 29 3 J J J J J (db J J J J (fun hg=>dQ (aS J hg) (aS J hg))),
   ⟨hZ 33 7 29 3 J J J J (db J J J J (fun hg=>bl (aS J hg))),
   ⟨qD 7 34 8 J J J J (rP J J J J (fun hg=>cd rf jp J J)),
   ⟨hZ 35 9 34 8 J J J J (rP J J J J (fun hg=>aY ce J J (aS J hg))),
   ⟨qD 2 34 8 J J J J (rP J J J J (fun hg=>bz wo J J)),
   ⟨qD 7 34 8 J J J J (rP J J J J (fun hg=>cd pL iF J J)),
   ⟨hZ 38 12 34 8 J J J J (rP J J J J (fun hg=>aY bJ J J (aS J hg))),
   ⟨wl 37 11 39 13 34 8 J J J J J (rP J J J J (fun hg=>aD RU (JI _ _ (q_r2g hg)) ⟨(aS J hg),(aS J hg),aU⟩)),
   ⟨wl 36 10 40 14 34 8 J J J J J (rP J J J J (fun hg=>aD RV (JJ _ _ (q_r3g hg)) ⟨(aS J hg),(aS J hg),aU⟩)),
   ⟨hZ 41 15 34 8 J J J J (rP J J J J (fun hg=>dH (aS J hg))),
   ⟨wl 34 8 42 16 29 3 J J J J J (db J J J J (fun hg=>fi (aS J hg) (fun hb=>(aS J (sK hg (oL hb)))) (fun hb=>(h1t2 (sK hg hb)).2) (fun hb=>h0t2 hg hb))),
   ⟨ft 29 3 43 17 J J J J (dF (ht J) (fun hb=>(aS J hb)) (fun hb=>(h1t1 hb).2) h0t1),
   aU⟩⟩⟩⟩⟩⟩⟩⟩⟩⟩⟩⟩⟩⟩⟩⟩⟩⟩⟩ ?_
  refine au<|cX h rfl (fun h=>?_) (fun h=>?_)
  ·refine aq<|zo J (fJ)<|an<|aj ?_;refine aC (aa (aa (aC (aa ?_))));refine vu ?_;cases so h;exact aB J J
  ·refine bA<|am<|au<|ai<|zo rfl (jU (cz hx hN) rfl)<|aA rfl<|aH ?_;exact aT (aJ (ih (i+1) ⟨cy hx,h⟩) (aZ J))

end Go.Proofs.YtmogpgcfognefaaGreatDoor

