/- co of this claim: P9. -/
import Derived.Test.YtmogpgcfognefaaGreatDoorNeT
import Derived.Test.YtmogpgcfognefaaGreatDoorNeP8
set_option linter.all false
namespace Go.Proofs.YtmogpgcfognefaaGreatDoor
open Go
set_option maxRecDepth 100000

theorem Qd(e:bf)(left:Int){R:Int×Int×Bool}(h:D4 e left=some R):aN aM 154 [tD bn e,bH left] (tT [bH R.1,bH R.2.1,gK R.2.2]):=by
 refine aN.of Tryz.func154 J J J fun w0 S0=>aq<|zo J (jh J)<|zo J (cQ)<|zo J (cQ)<|zo J (fJ)<|an<|ae<|aq<|zo J (bz gj J J)<|bF h fun r q_r h=>zo J (aD Nu (Cc _ q_r) ⟨(ht J),aU⟩)<|zo J (rn J)<|aA J<|cN J J (fun hg=>cd fa dw J J)<|cN J J (fun hg=>aY lU J J (aS J hg))<|cN J J (fun hg=>bN jB (aS J hg))<|cN J J (fun hg=>dg (aS J hg) hI)<|zo J (pZ J J)<|aA J<|bF h fun t q_t h=>?_;refine cN J J (fun hg=>cd fa dw J J)<|cN J J (fun hg=>aY lU J J (aS J hg)) ?_
 obtain⟨e1,h1t,h0t⟩:=og q_t
 have q_e1g:=fun hb=>(h1t hb).1
 refine cN J J (fun hg=>bX jB cY J (aS J hg) hI (q_e1g hg))<|cN J J (fun hg=>dh iA J ef J (aS J hg))<|cN J J (fun hg=>aY bJ J J (aS J hg))<|cN J J (fun hg=>dg (aS J hg) hI)<|zo J (fi (ht J) (fun hb=>(aS J (oL hb))) (fun hb=>(h1t hb).2) h0t)<|an<|cX h J (fun h=>?_) (fun h=>?_)
 ·refine aq<|zo J (cQ)<|zo J (cQ)<|zo J (fJ)<|an<|aj<|aa ?_;cases so h;exact ol J J J J
 ·refine dA<|ae<|bF h fun e2 q_e2 h=>bF h fun e3 q_e3 h=>?_
  refine Hq 11 [tc (bq Kl e.Nodes),tc (d7 (aQ) e.Nodes),tc (bq aQ e2),tc (tD aQ e2),tc (bq Kl e.Nodes),tc (d7 (aQ) e.Nodes),tc (bq aQ e3),tc (tD aQ e3),([8],fun s=>tV (aI ((s.getD 0 wc).h 0).2 0)),([9],fun s=>tV (aI ((s.getD 0 wc).h 0).2 0)),tc (Bq)] [false,false,false,false,false,false,false,false,true,true,true] [([],fun _=>[]),([8],fun sg=>[bx aQ 149 ((sg 8).h 0).2 ue]),([9],fun sg=>[bx aQ 149 ((sg 9).h 0).2 ue]),([8,9],fun sg=>[bx aQ 149 ((sg 9).h 0).2 ue,bx aQ 149 ((sg 8).h 0).2 ue]),([8,9,10],fun sg=>[bx aQ 149 ((sg 8).h 0).2 e2,bx aQ 149 ((sg 9).h 0).2 ue])] (fun _=>J) mixed J J J J
   ⟨⟨[⟨2,fun _=>bq bn e,none⟩],_,[[],[8],[9],[8,9]],J,⟨(fun _=>J),aU⟩,J,J,J,J,J,⟨fun sg=>ak J (cd fa dw J J),fun sg=>ak J (cd fa dw J J),fun sg=>ak J (cd fa dw J J),fun sg=>ak J (cd fa dw J J),aU⟩⟩,
   ⟨⟨[⟨28,fun _=>bq Kl e.Nodes,some 0⟩],_,[[],[8],[9],[8,9]],J,⟨(fun _=>J),aU⟩,J,J,J,J,J,⟨fun sg=>ak J (bz lU J J),fun sg=>ak J (bz lU J J),fun sg=>ak J (bz lU J J),fun sg=>ak J (bz lU J J),aU⟩⟩,
   ⟨⟨[⟨29,fun _=>tD Kl e.Nodes,some 1⟩],_,[[],[8],[9],[8,9]],J,⟨(fun _=>J),aU⟩,J,J,J,J,J,⟨fun sg=>ak J (bX jB cY J (ht J) hI q_e2),fun sg=>ak J (bX jB cY J (ht J) hI q_e2),fun sg=>ak J (bX jB cY J (ht J) hI q_e2),fun sg=>ak J (bX jB cY J (ht J) hI q_e2),aU⟩⟩,
   ⟨⟨[⟨30,fun _=>bq aQ e2,some 2⟩],_,[[],[8],[9],[8,9]],J,⟨(fun _=>J),aU⟩,J,J,J,J,J,⟨fun sg=>ak J (bz cY J J),fun sg=>ak J (bz cY J J),fun sg=>ak J (bz cY J J),fun sg=>ak J (bz cY J J),aU⟩⟩,
   ⟨⟨[⟨2,fun _=>bq bn e,none⟩],_,[[],[8],[9],[8,9],[8,9,10]],J,⟨(fun _=>J),aU⟩,J,J,J,J,J,⟨fun sg=>ak J (cd fa dw J J),fun sg=>ak J (cd fa dw J J),fun sg=>ak J (cd fa dw J J),fun sg=>ak J (cd fa dw J J),fun sg=>ak J (cd fa dw J J),aU⟩⟩,
   ⟨⟨[⟨32,fun _=>bq Kl e.Nodes,some 4⟩],_,[[],[8],[9],[8,9],[8,9,10]],J,⟨(fun _=>J),aU⟩,J,J,J,J,J,⟨fun sg=>ak J (bz lU J J),fun sg=>ak J (bz lU J J),fun sg=>ak J (bz lU J J),fun sg=>ak J (bz lU J J),fun sg=>ak J (bz lU J J),aU⟩⟩,
   ⟨⟨[⟨33,fun _=>tD Kl e.Nodes,some 5⟩],_,[[],[8],[9],[8,9],[8,9,10]],J,⟨(fun _=>J),aU⟩,J,J,J,J,J,⟨fun sg=>ak J (bX jB cY J (ht J) hI q_e3),fun sg=>ak J (bX jB cY J (ht J) hI q_e3),fun sg=>ak J (bX jB cY J (ht J) hI q_e3),fun sg=>ak J (bX jB cY J (ht J) hI q_e3),fun sg=>ak J (bX jB cY J (ht J) hI q_e3),aU⟩⟩,
   ⟨⟨[⟨34,fun _=>bq aQ e3,some 6⟩],_,[[],[8],[9],[8,9],[8,9,10]],J,⟨(fun _=>J),aU⟩,J,J,J,J,J,⟨fun sg=>ak J (bz cY J J),fun sg=>ak J (bz cY J J),fun sg=>ak J (bz cY J J),fun sg=>ak J (bz cY J J),fun sg=>ak J (bz cY J J),aU⟩⟩,
   ⟨⟨[],_,[([],[8]),([9],[8,9])],J,aU,J,J,J,J,J,⟨fun sg=>dN J (nA (r:=aQ) (x:=ue) cY (fun _=>k8 _)),fun sg=>dN J (EffOK.post_imp (post:=fun x__=>(fun(sg:Nat→OI)=>[bx aQ 149 ((sg 8).h 0).2 ue,bx aQ 149 ((sg 9).h 0).2 ue]) (Ht sg 8 x__)) (nA (r:=aQ) (x:=ue) cY (fun _=>k8 _)) (fun h=>dp.pick [1,0] J h)),aU⟩⟩,
   ⟨⟨[],_,[([],[9]),([8],[8,9])],J,aU,J,J,J,J,J,⟨fun sg=>dN J (nA (r:=aQ) (x:=ue) cY (fun _=>k8 _)),fun sg=>dN J (nA (r:=aQ) (x:=ue) cY (fun _=>k8 _)),aU⟩⟩,
   ⟨⟨[⟨7,fun sg=>tV (aI ((sg 8).h 0).2 0),some 8⟩,⟨31,fun _=>tD aQ e2,some 3⟩],_,[([8,9],[8,9,10])],J,⟨(fun _=>J),(fun _=>J),aU⟩,J,J,J,J,J,⟨fun sg=>dN J (EffOK.fr1 (f6 cY J (HG ap) J (ht J) (ht J))),aU⟩⟩,
   aU⟩⟩⟩⟩⟩⟩⟩⟩⟩⟩⟩ (fun sg=>?_)
  refine(show RG _ _ _ _ [bx aQ 149 ((sg 8).h 0).2 e2,bx aQ 149 ((sg 9).h 0).2 ue] _ from ?_);refine aL 7 J<|ay cY J ap J (ht J) (ht J)<|aL 8 J<|an<|ae<|aq<|zo J (cd iA ef J J)<|zo J (bz bJ J J)<|zo J (rn J)<|aA J<|cN J J (fun hg=>cd iA ef J J)<|cN J J (fun hg=>aY bJ J J (aS J hg))<|cN J J (fun hg=>dg (aS J hg) hI)<|zo J (pZ J J)<|an<|cX h J (fun h=>?_) (fun h=>?_)
  ·refine aq<|zo J (cQ)<|zo J (cQ)<|zo J (fJ)<|an<|aj<|aa ?_;cases so h;exact ol J J J J
  ·refine dA<|ae ?_
   refine eG (ts:=[_,_,_,_,_,_,_,_,_,_,_,_]) mixed J J
    ⟨ia 7 J J J (cd m3 iG J J),
    ⟨cO 44 0 J J J (bz bJ J J),
    ⟨ia 8 J J J (cd m3 iG J J),
    ⟨cO 46 2 J J J (bz bJ J J),
    ⟨ft 45 1 47 3 J J J J (EZ (ht J) (ht J)),
    ⟨ia 7 J J J (cd m3 iG J J),
    ⟨cO 49 5 J J J (bz bJ J J),
    ⟨ia 8 J J J (cd m3 iG J J),
    ⟨cO 51 7 J J J (bz bJ J J),
    ⟨ft 50 6 52 8 J J J J (xO (ht J) (ht J)),
    ⟨cO 48 4 J J J (zM J),
    ⟨cO 53 9 J J J (zM J),
    aU⟩⟩⟩⟩⟩⟩⟩⟩⟩⟩⟩⟩ ?_
   refine au<|ae<|aq<|aA rfl<|aA rfl<|zo rfl (dQ (ht rfl) (ht rfl))<|aA rfl<|cN rfl rfl (fun hg=>cL J)<|cN J J (fun hg=>cL J)<|cN J J (fun hg=>dI (aS J hg) (aS J hg))<|zo J (pZ J J)<|an<|cX h J (fun h=>?_) (fun h=>?_)
   ·refine aq<|zo J (cQ)<|zo J (cQ)<|zo J (fJ)<|an<|aj<|aa ?_;cases so h;exact ol J J J J
   ·refine dA<|aq<|aA J<|aA J<|aA J<|zo J (fK (ht J) (ht J))<|bk J<|bk J<|zo J (fJ)<|an<|aj ?_;cases so h;exact ol J J J J

theorem Ti(n:aK)(a1:bE)(b:bE)(left:Int){R:Bool}(h:zY n a1 b left=some R):aN aM 79 [tD aW n,tD bU a1,tD bU b,bH left] (gK R):=by
 refine aN.of Tryz.func79 J J J fun w0 S0=>aq<|zo J (jh J)<|zo J (jh J)<|zo J (jh J)<|zo J (fJ)<|an<|ae<|aq<|zo J (cd mS gE J J)<|zo J (bz bJ J J)<|zo J (jy J)<|an<|cX h J (fun h=>?_) (fun h=>?_)
 ·refine aq<|zo J (cd mS gE J J)<|zo J (bz bJ J J)<|zo J (rn J)<|bk J<|an<|aj<|aa ?_;cases so h;exact aB J J
 ·refine dA<|ae<|aq<|zo J (cd mS gE J J)<|zo J (bz bJ J J)<|zo J (rn J)<|aA J<|cN J J (fun hg=>cd mS gE J J)<|cN J J (fun hg=>aY bJ J J (aS J hg))<|cN J J (fun hg=>dg (aS J hg) hI)<|zo J (pZ J J)<|aA J<|cN J J (fun hg=>cd pK jG J J)<|cN J J (fun hg=>aY ce J J (aS J hg))<|cN J J (fun hg=>bN dm (aS J hg))<|cN J J (fun hg=>cd pK jG J J)<|cN J J (fun hg=>aY ce J J (aS J hg))<|cN J J (fun hg=>bN dm (aS J hg))<|cN J J (fun hg=>dg (aS J hg) (aS J hg))<|zo J (pZ J J)<|aA J<|bF h fun t q_t h=>?_;refine cN J J (fun hg=>cd B9 ra J J)<|cN J J (fun hg=>aY gj J J (aS J hg)) ?_
  obtain⟨r,h1t,h0t⟩:=og q_t
  have q_rg:=fun hb=>(h1t hb).1
  refine cN J J (fun hg=>aD Ws (Qe _ (q_rg hg)) ⟨(aS J hg),aU⟩)<|cN J J (fun hg=>dH (aS J hg))<|zo J (fi (ht J) (fun hb=>(aS J (oL hb))) (fun hb=>(h1t hb).2) h0t)<|an<|cX h J (fun h=>?_) (fun h=>?_)
  ·refine aq<|zo J (fJ)<|an<|aj<|aa ?_;cases so h;exact aB J J
  ·refine dA<|aq<|Hh (fun y:Bool=>gK y) Li J fun b1=>bk J<|an<|ae<|aq<|zo J (cd B9 ra J J)<|zo J (bz gj J J)<|bF h fun r1 q_r1 h=>ll Wr (Ng _ q_r1) ⟨(ht J),aU⟩ J fun l c=>zo J (fA sX (.head _) (ht J))<|zo J (bl hI)<|an<|ax<|mL (.head _) fun hN=>bB ?_;refine aJ (ln (Z:=fun ls i held=>(r1.drop i=ls)∧nR a1 b left ls held=some R) (Of:=fun _ i held=>[cG bn 45 l c r1,GA (fun y:Bool=>gK y) Li b1 held]) (Gf:=fun _ i held=>[(3,bH left),(5,bq bU a1),(6,bq bU b),(9,tV (ne b1)),(48,pQ l c r1),(49,hM r1),(50,bH (i:Int))]) (fun i held h=>?_) (fun e tl ih i held h=>?_) r1 0 ([]:List ((Int×Int)×Bool)) ⟨J,h⟩) (aZ J)
   ·obtain⟨hx,h⟩:=h
    refine av<|aq<|zo J (eK J J)<|an<|ae<|bp (ht J) (cW hx)<|bg ?_;refine ac (ac (aF ?_));refine au<|ae<|aq<|zo rfl (cd pK jG rfl rfl)<|zo rfl (bz ce rfl rfl)<|zo rfl (ja dm rfl)<|zo rfl (bl hI)<|an<|ax<|aV (k:=68) J fun hN1=>bB<|mK ?_;refine aJ (d6 (Z:=fun ls1 i1=>(a1.Cols.drop i1=ls1)∧qV b held ls1 i1=some R) (Of:=fun _ i1=>[GA (fun y:Bool=>gK y) Li b1 held]) (Gf:=fun _ i1=>[(5,bq bU a1),(6,bq bU b),(9,tV (ne b1)),(69,hM a1.Cols),(70,bH (i1:Int))]) (fun i1 h=>?_) (fun e1 tl1 ih1 i1 h=>?_) a1.Cols 0 ⟨J,h⟩) (aZ J)
    ·obtain⟨hx1,h⟩:=h
     refine av<|aq<|zo J (eK J J)<|an<|ae<|bp (ht J) (cW hx1)<|bg ?_;refine ac (ac (aF ?_));refine au<|aq<|zo rfl (fJ)<|an<|aj<|ba ?_;cases so h;exact aB J J
    ·obtain⟨hx1,h⟩:=h
     refine av<|aq<|zo J (eK J J)<|an<|ae<|bo (ht J) (cU hx1)<|dA<|ae<|ax<|aq<|aA J<|bk J<|an<|ae<|bF h fun e2 q_e2 h=>?_
     refine eG (ts:=[_,_,_,_,_,_,_,_,_,_,_,_,_,_]) mixed J J
      ⟨ia 9 J J J (cL J),
      ⟨ia 5 J J J (cd pK jG J J),
      ⟨cO 74 1 J J J (bz ce J J),
      ⟨ia 15 J J J (cL J),
      ⟨ft 75 2 76 3 J J J J (iX dm bJ J J J (cP hx1)),
      ⟨cO 77 4 J J J (bz bJ J J),
      ⟨ia 6 J J J (cd pK jG J J),
      ⟨cO 79 6 J J J (bz ce J J),
      ⟨ia 15 J J J (cL J),
      ⟨ft 80 7 81 8 J J J J (iX dm bJ J J J q_e2),
      ⟨cO 82 9 J J J (bz bJ J J),
      ⟨ft 78 5 83 10 J J J J (oJ (r:=bQ) (ys:=[e1,e2]) (xs:=[.tmp 78,.tmp 83]) Bd bJ J AA J J ⟨(ht J),(ht J),aU⟩),
      ⟨ft 73 0 84 11 J J J J (Ib (γ:=fun y:Bool=>tD rB y) (z:=false) Tryz.underlying58 (Lj Bd ou bJ J QG) zv4 (fun S=>⟨_,J,(fun _=>J) S⟩) (.head _) (ht J) (MM (ht J))),
      ⟨cO 85 12 J J J (dH (ht J)),
      aU⟩⟩⟩⟩⟩⟩⟩⟩⟩⟩⟩⟩⟩⟩ ?_
     refine au<|cX h rfl (fun h=>?_) (fun h=>?_)
     ·refine aq<|zo J (fJ)<|an<|aj ?_;refine aC (aa (aa (aC (aa ?_))));refine ba ?_;cases so h;exact aB J J
     ·refine bA<|am<|au<|ai<|zo rfl (jU (cz hx1 hN1) rfl)<|aA rfl<|aH ?_;exact aT (aJ (ih1 (i1+1) ⟨cy hx1,h⟩) (aZ J))
   ·obtain⟨hx,h⟩:=h
    refine av<|aq<|zo J (eK J J)<|an<|ae<|bo (ht J) (cU hx)<|dA<|ae<|ax<|aq<|zo J (dk sX gj (.head _) (ht J) (ht J) (cP hx))<|zo J (fG (r:=bn) (i:=(i:Int)) (foff:=0) gj J J cF J (.head _) (cP hx) (ht J))<|aO (r:=bn) (x:=nH) gj (fun _=>nJ _) J fun b2=>ay gj J ap J (ht J) (ht J)<|aL 11 J<|an<|aq<|zo J (bz gj J J) ?_;refine aA J<|bF h fun r2 q_r2 h=>zo J (aD Wq (Qd _ _ q_r2) ⟨(ht J),(ht J),aU⟩)<|aA J<|zo J (hY J J)<|zo J (hY J J)<|zo J (hY J J)<|bk J<|bk J<|bk J<|an<|aq<|aA J<|an<|cX h J (fun h=>?_) (fun h=>?_)
    ·refine ai<|aA J<|aA J<|aA J<|zo J (oJ (r:=bQ) (ys:=[r2.1,r2.2.1]) (xs:=[.tmp 63,.tmp 64]) Bd bJ J AA J J ⟨(ht J),(ht J),aU⟩)<|bD<|Q6 (γ:=fun y:Bool=>gK y) Tryz.underlying58 (Lj Bd ou bJ J QG) (ht J) (MM (ht J)) hB<|aH<|am<|au<|ai<|zo rfl (jU (cz hx hN) rfl)<|aA rfl<|aH<|aX ?_;exact aT (aJ (ih (i+1) (fB held (k2 ([r2.1,r2.2.1])) true) ⟨cy hx,h⟩) (aZ J))
    ·refine bA<|am<|au<|ai<|zo rfl (jU (cz hx hN) rfl)<|aA rfl<|aH ?_;exact aT (aJ (ih (i+1) held ⟨cy hx,h⟩) (aZ J))

theorem Qc(keys:(List Int))(c:Int){R:Bool}(h:qX keys c=some R):aN aM 155 [bH c,bq iv keys] (gK R):=by
 refine aN.of Tryz.func155 J J J fun w0 S0=>aq<|zo J (fJ)<|an<|aq<|zo J (bz ce J J)<|aA J<|bF h fun r q_r h=>zo J (aD TU (Iw _ _ q_r) ⟨(ht J),(ht J),aU⟩)<|zo J (dH (ht J))<|bk J<|an<|aj ?_;cases so h;exact aB J J

theorem Th(a1:bE)(keys:(List Int)){R:Bool}(h:xJ a1 keys=some R):aN aM 80 [tD bU a1,kz keys] (gK R):=by
 refine aN.of Tryz.func80 J J J fun w0 S0=>aq<|zo J (jh J)<|zo J (jh J)<|zo J (fJ)<|an<|aq<|zo J (cd mS gE J J)<|zo J (bz bJ J J)<|zo J (jy J)<|aA J<|bF h fun t q_t h=>bO J J (fun hg=>cd pK jG J J)<|bO J J (fun hg=>aY ce J J (aS J hg))<|bO J J (fun hg=>(show bS _ _ _ _ ((dJ aM Au mr (fun(x:Int)=>(qX keys) x)))from eJ (cts:=[bq iv keys]) (caps:=[.tmp 3]) Wp ⟨(ht J),aU⟩ (fun x y h=>Qc _ _ h))) ?_
 obtain⟨r,h1t,h0t⟩:=og q_t
 have q_rg:=fun hb=>(h1t hb).1
 refine bO J J (fun hg=>aD Ec (vS _ _ (q_rg hg)) ⟨(aS J hg),(aS J hg),aU⟩)<|bO J J (fun hg=>dH (aS J hg))<|zo J (dF (ht J) (fun hb=>(aS J hb)) (fun hb=>(h1t hb).2) h0t)<|bk J<|an<|aj ?_;cases so h;exact aB J J

theorem Tg(s1:(List lN))(s2:(List lN)){R:Bool}(h:lh s1 s2=some R):aN aM 81 [d7 (l0) s1,d7 (l0) s2] (gK R):=by
 refine aN.of Tryz.func81 J J J fun w0 S0=>aq<|zo J (fJ)<|an<|ae<|aq<|aA J<|zo J (ja Ep J)<|aA J<|zo J (ja Ep J)<|zo J (dg (ht J) (ht J))<|an<|cX h J (fun h=>?_) (fun h=>?_)
 ·refine aq<|zo J (fJ)<|an<|aj<|aa ?_;cases so h;exact aB J J
 ·refine dA<|ae<|aq<|aA J<|zo J (ja Ep J)<|zo J (bl hI)<|an<|ax<|aV (k:=11) J fun hN=>bB ?_;refine aJ (d6 (Z:=fun ls i=>(s1.drop i=ls)∧gL s2 ls i=some R) (Of:=fun _ i=>[]) (Gf:=fun _ i=>[(0,d7 (l0) s1),(1,d7 (l0) s2),(12,hM s1),(13,bH (i:Int))]) (fun i h=>?_) (fun e tl ih i h=>?_) s1 0 ⟨J,h⟩) (aZ J)
  ·obtain⟨hx,h⟩:=h
   refine av<|aq<|zo J (eK J J)<|an<|ae<|bp (ht J) (cW hx)<|bg ?_;refine ac (ac (aF ?_));refine au<|aq<|zo rfl (fJ)<|an<|aj ?_;cases so h;exact aB J J
  ·obtain⟨hx,h⟩:=h
   refine av<|aq<|zo J (eK J J)<|an<|ae<|bo (ht J) (cU hx)<|dA<|ae<|ax<|aq<|aA J<|bk J<|an<|ae<|bF h fun e1 q_e1 h=>?_
   refine eG (ts:=[_,_,_,_,_,_,_,_,_]) mixed J J
    ⟨ia 0 J J J (cL J),
    ⟨ia 5 J J J (cL J),
    ⟨ft 16 0 17 1 J J J J (iX Ep Do J J J (cP hx)),
    ⟨cO 18 2 J J J (bz Do J J),
    ⟨ia 1 J J J (cL J),
    ⟨ia 5 J J J (cL J),
    ⟨ft 20 4 21 5 J J J J (iX Ep Do J J J q_e1),
    ⟨cO 22 6 J J J (bz Do J J),
    ⟨ft 19 3 23 7 J J J J (AU Vb (ht J) (ht J)),
    aU⟩⟩⟩⟩⟩⟩⟩⟩⟩ ?_
   refine au<|cX h rfl (fun h=>?_) (fun h=>?_)
   ·refine aq<|zo J (fJ)<|an<|aj ?_;refine aC (aa (aa (aC (aa ?_))));cases so h;exact aB J J
   ·refine bA<|am<|au<|ai<|zo rfl (jU (cz hx hN) rfl)<|aA rfl<|aH ?_;exact aT (aJ (ih (i+1) ⟨cy hx,h⟩) (aZ J))

theorem Tz(p:(Option cj))(frag:Int)(at1:Int)(l:(List bE)){R:Bool}(h:qY p frag at1 l=some R):aN aM 43 [tD oy p,bH frag,bH at1,d7 (bU) l] (gK R):=by
 refine aN.of Tryz.func43 J J J fun w0 S0=>aq<|zo J (fJ)<|an<|aq<|aA J<|bF h fun p1 q_p1 h=>zo J (eV (ht J) q_p1)<|zo J (cd pg ij J J)<|zo J (cd ni gX J J)<|zo J (bz wO J J)<|aA J<|bF h fun e q_e h=>zo J (iX su lg J J J q_e)<|zo J (bz lg J J)<|aO (r:=cM) (x:=Ex) lg (fun _=>nI _) J fun b=>ay lg J ap J (ht J) (ht J)<|aL 9 J<|an<|ae ?_;refine ai<|zo J (cd tF mC J J)<|zo J (bz AB J J)<|aA J<|bF h fun e1 q_e1 h=>zo J (iX qy eC J J J q_e1)<|zo J (bz eC J J)<|aO (r:=aW) (x:=Dj) eC (fun _=>fE _) J fun b1=>ay eC J ap J (ht J) (ht J)<|aL 10 J<|an ?_;refine El (Z:=lJ p frag l e e1=some R) (Of:=[]) (Gf:=[(0,tD oy p),(1,bH frag),(3,d7 (bU) l),(9,bq cM e),(10,bq aW e1)]) (fun h=>?_) (fun K=>?_)
 ·skip
  refine ae<|aq<|zo J (cd w8 oS J J)<|zo J (bz bJ J J)<|zo J (jy J)<|aA J<|cN J J (fun hg=>cd u7 ml J J)<|cN J J (fun hg=>aY bJ J J (aS J hg))<|cN J J (fun hg=>dI (aS J hg) hI)<|zo J (pZ J J)<|an<|cX h J (fun h=>?_) (fun h=>?_)
  ·refine aq<|zo J (fJ)<|an<|aj<|aa ?_;cases so h;exact aB J J
  ·refine dA<|aq<|aA J<|zo J (cd u7 ml J J)<|zo J (bz bJ J J)<|bF h fun e2 q_e2 h=>zo J (iX uj fe J J J q_e2)<|zo J (bz fe J J)<|aO (r:=bU) (x:=Bj) fe (fun _=>iQ _) J fun b2=>ay fe J ap J (ht J) (ht J)<|aL 13 J<|an<|ae<|aq<|zo J (cd iq da J J)<|zo J (bz bJ J J)<|an<|ax<|ae ?_;refine ai<|zo J (jy J)<|bk J<|an<|cX h J (fun h=>?_) (fun h=>?_)
   ·refine ae<|bF h fun e3 q_e3 h=>bF h fun p2 q_p2 h=>bF h fun e4 q_e4 h=>bF h fun e5 q_e5 h=>bF h fun r q_r h=>?_
    refine eG (ts:=[_,_,_,_,_,_,_,_,_,_,_,_,_,_,_,_,_,_,_,_,_]) mixed J J
     ⟨ia 10 J J J (bz eC J J),
     ⟨ia 13 J J J (bz fe J J),
     ⟨ia 3 J J J (cL J),
     ⟨ia 10 J J J (cd zi oQ J J),
     ⟨cO 75 3 J J J (bz bJ J J),
     ⟨ft 74 2 76 4 J J J J (iX uj fe J J J q_e3),
     ⟨cO 77 5 J J J (bz fe J J),
     ⟨ia 0 J J J (cL J),
     ⟨cO 79 7 J J J (eV (ht J) q_p2),
     ⟨cO 80 8 J J J (cd AZ ya J J),
     ⟨cO 81 9 J J J (bz I2 J J),
     ⟨ia 1 J J J (cL J),
     ⟨ft 82 10 83 11 J J J J (iX Tryz.underlying161 CS J J J q_e4),
     ⟨cO 84 12 J J J (bz CS J J),
     ⟨ia 10 J J J (cd u7 ml J J),
     ⟨cO 86 14 J J J (bz bJ J J),
     ⟨ft 85 13 87 15 J J J J (iX uh ce J J J q_e5),
     ⟨cO 88 16 J J J (bz ce J J),
     ⟨cO 89 17 J J J (ja dm J),
     ⟨⟨[⟨72,_,some 0⟩,⟨73,_,some 1⟩,⟨78,_,some 6⟩,⟨90,_,some 18⟩],_,J,⟨J,J,J,J,aU⟩,J,J,ak J (aD X7 (Ti _ _ _ _ q_r) ⟨(ht J),(ht J),(ht J),(ht J),aU⟩)⟩,
     ⟨cO 91 19 J J J (zM J),
     aU⟩⟩⟩⟩⟩⟩⟩⟩⟩⟩⟩⟩⟩⟩⟩⟩⟩⟩⟩⟩⟩ ?_
    refine au<|aj ?_;refine aC (aa ?_);cases so h;exact aB J J
   ·refine aq<|zo J (jy J)<|bk J<|an<|cX h J (fun h=>?_) (fun h=>?_)
    ·refine aq<|zo J (cd mS gE J J)<|zo J (bz bJ J J)<|zo J (rn J)<|aA J<|bF h fun t q_t h=>bO J J (fun hg=>cL J)<|bO J J (fun hg=>cd zi oQ J J)<|bO J J (fun hg=>aY bJ J J (aS J hg)) ?_
     obtain⟨e6,h1t,h0t⟩:=og q_t
     have q_e6g:=fun hb=>(h1t hb).1
     refine bO J J (fun hg=>bX uj fe J (aS J hg) (aS J hg) (q_e6g hg))<|bO J J (fun hg=>dh mS J gE J (aS J hg))<|bO J J (fun hg=>aY bJ J J (aS J hg))<|bO J J (fun hg=>dg (aS J hg) hI)<|zo J (dF (ht J) (fun hb=>(aS J hb)) (fun hb=>(h1t hb).2) h0t)<|bk J<|an<|aj ?_;refine aC (aa ?_);cases so h;exact aB J J
    ·refine fD (Z:=fun x=>lI p frag e e1 e2 x=some R) (Of:=fun x=>[]) (Gf:=fun x=>[(0,tD oy p),(1,bH frag),(9,bq cM e),(10,bq aW e1),(13,bq bU e2),(69,bH e1.Op),(106,gK x)]) (fun x h=>?_) (fun K1=>?_)
     ·skip
      refine cX h J (fun h=>?_) (fun h=>?_)
      ·refine aq<|zo J (bz fe J J)<|zo J (cd kq fZ J J)<|zo J (bz ce J J)<|bF h fun r1 q_r1 h=>zo J (aD X6 (Th _ _ q_r1) ⟨(ht J),(ht J),aU⟩)<|bk J<|an<|aj ?_;refine aC (aa ?_);cases so h;exact aB J J
      ·refine aq<|zo J (jy J)<|bk J<|an<|cX h J (fun h=>?_) (fun h=>?_)
       ·refine aq<|zo J (cd mS gE J J)<|zo J (bz bJ J J)<|zo J (jy J)<|bk J<|an<|aj ?_;refine aC (aa ?_);cases so h;exact aB J J
       ·refine aq<|zo J (jy J)<|bk J<|an<|cX h J (fun h=>?_) (fun h=>?_)
        ·refine aq<|zo J (cd mS gE J J)<|zo J (bz bJ J J)<|zo J (rn J)<|bk J<|an<|aj ?_;refine aC (aa ?_);cases so h;exact aB J J
        ·refine aq<|zo J (jy J)<|bk J<|an<|cX h J (fun h=>?_) (fun h=>?_)
         ·refine aq<|aA J<|aA J<|bF h fun r2 q_r2 h=>zo J (aD Vf (M7 _ _ q_r2) ⟨(ht J),(ht J),aU⟩)<|aO (r:=aW) (x:=Dj) eC (fun _=>fE _) J fun b3=>ay eC J ap J (ht J) (ht J)<|aL 14 J<|an<|aq<|zo J (cd mS gE J J)<|zo J (bz bJ J J)<|zo J (rn J)<|aA J<|bO J J (fun hg=>cd va ny J J)<|bO J J (fun hg=>aY bJ J J (aS J hg))<|bO J J (fun hg=>bK (aS J hg) hI)<|zo J (la J J)<|aA J<|bO J J (fun hg=>cd iq da J J)<|bO J J (fun hg=>aY bJ J J (aS J hg)) ?_;refine bO J J (fun hg=>bK (aS J hg) hI)<|zo J (la J J)<|aA J<|bO J J (fun hg=>cd yb px J J)<|bO J J (fun hg=>aY bJ J J (aS J hg))<|bO J J (fun hg=>cd yb px J J)<|bO J J (fun hg=>aY bJ J J (aS J hg))<|bO J J (fun hg=>bK (aS J hg) (aS J hg))<|zo J (la J J)<|aA J<|bF h fun t1 q_t1 h=>bO J J (fun hg=>cd yc py J J)<|bO J J (fun hg=>aY Mg J J (aS J hg))<|bO J J (fun hg=>cd yc py J J)<|bO J J (fun hg=>aY Mg J J (aS J hg)) ?_
          obtain⟨r3,h1t1,h0t1⟩:=og q_t1
          have q_r3g:=fun hb=>(h1t1 hb).1
          refine bO J J (fun hg=>aD X5 (Tg _ _ (q_r3g hg)) ⟨(aS J hg),(aS J hg),aU⟩)<|zo J (dF (ht J) (fun hb=>(aS J hb)) (fun hb=>(h1t1 hb).2) h0t1)<|bk J<|an<|aj ?_;refine aC (aa ?_);cases so h;exact aB J J
         ·refine bA<|am<|au<|aq<|zo rfl (fJ)<|an<|aj ?_;cases so h;exact aB J J
     ·skip
      refine aq<|zo J (jy J)<|bk J<|an<|cX h J (fun h=>?_) (fun h=>?_)
      ·refine bA ?_;exact bL (K1 (e1.Op==(4:Int)) h) (aZ J)
      ·refine ai<|zo J (jy J)<|bk J<|aH ?_;exact bL (K1 (e1.Op==(11:Int)) h) (aZ J)
 ·skip
  refine aq<|zo J (cd iq da J J)<|zo J (bz bJ J J)<|zo J (jy J)<|an<|cX h J (fun h=>?_) (fun h=>?_)
  ·refine aq<|aA J<|aA J<|bF h fun r4 q_r4 h=>zo J (aD Vf (M7 _ _ q_r4) ⟨(ht J),(ht J),aU⟩)<|aO (r:=aW) (x:=Dj) eC (fun _=>fE _) J fun b4=>ay eC J ap J (ht J) (ht J)<|aL 11 J<|an<|aq<|zo J (cd oV gY J J)<|zo J (bz yT J J)<|zo J (cd oV gY J J)<|zo J (bz yT J J)<|bF h fun r5 q_r5 h=>zo J (aD X9 (Tk _ _ _ q_r5) ⟨(ht J),(ht J),(sj X8 fun x y h=>Tj _ _ h),aU⟩)<|bk J<|an<|aq ?_;refine zo J (cd iq da J J)<|zo J (bz bJ J J)<|zo J (rn J)<|aA J<|cN J J (fun hg=>cL J)<|cN J J (fun hg=>dH (aS J hg))<|zo J (pZ J J)<|aA J<|cN J J (fun hg=>cd kq fZ J J)<|cN J J (fun hg=>aY ce J J (aS J hg))<|cN J J (fun hg=>bN dm (aS J hg))<|cN J J (fun hg=>cd kq fZ J J)<|cN J J (fun hg=>aY ce J J (aS J hg))<|cN J J (fun hg=>bN dm (aS J hg))<|cN J J (fun hg=>dg (aS J hg) (aS J hg))<|zo J (pZ J J)<|an<|cX h J (fun h=>?_) (fun h=>?_)
   ·refine aq<|zo J (fJ)<|an<|aj<|aa ?_;cases so h;exact aB J J
   ·refine bA ?_;exact bL (K h) (aZ J)
  ·refine bA ?_;exact bL (K h) (aZ J)

theorem TK(q:hJ)(c:cn){R:Int×Int×Int}(h:BD q c=some R):aN aM 12 [tD dK q,tD cH c] (tT [bH R.1,bH R.2.1,bH R.2.2]):=by
 refine aN.of Tryz.func12 J J J fun w0 S0=>aq<|zo J (jh J)<|zo J (jh J)<|zo J (cQ)<|zo J (cQ)<|zo J (cQ)<|an<|yI<|aq<|zo J (bz rW J J)<|zo J (bz rX J J)<|bF h fun r q_r h=>zo J (aD TV (Ix _ _ q_r) ⟨(ht J),(ht J),aU⟩)<|aA J<|zo J (hY J J)<|zo J (hY J J)<|zo J (hY J J)<|zo J (hY J J)<|bk J<|bk J ?_;refine bk J<|bk J<|an<|ae<|aq<|aA J<|zo J (rn J)<|an<|cX h J (fun h=>?_) (fun h=>?_)
 ·refine aq<|aA J<|aA J<|aA J<|bk J<|bk J<|bk J<|an<|aj ?_;refine aa (lG ?_);cases so h;exact ol J J J J
 ·refine dA<|aq<|zo J (cQ)<|zo J (cQ)<|an<|ae<|yJ<|au<|ae<|aq<|zo rfl (cd ni gX rfl rfl)<|zo rfl (bz wO rfl rfl)<|zo rfl (ja su rfl)<|zo rfl (bl hI)<|an ?_;refine LQ (Z:=fun frag place=>pb frag place=some R) (Of:=fun frag place=>[]) (Gf:=fun frag place=>[(11,bH frag),(12,bH place)]) (fun frag place h=>?_) (fun K=>?_)
  ·skip
   refine au<|ae<|aq<|aA rfl<|zo rfl (dQ (ht rfl) hI)<|an<|cX h rfl (fun h=>?_) (fun h=>?_)
   ·refine aq<|aA J<|aA J<|bk J<|bk J<|zo J (cQ)<|an<|aj ?_;refine aa (lG ?_);cases so h;exact ol J J J J
   ·refine dA<|aq<|zo J (cQ)<|zo J (cQ)<|zo J (cQ)<|an<|aj<|lG ?_;cases so h;exact ol J J J J
  ·skip
   refine aV (k:=31) J fun hN=>bB ?_;refine aJ (rm (Z:=fun ls i frag1 place1=>(q.Frags.drop i=ls)∧o9 r ls i frag1 place1=some R) (Of:=fun _ i frag1 place1=>[]) (Gf:=fun _ i frag1 place1=>[(7,tD oy r.1),(11,bH frag1),(12,bH place1),(31,d7 (cM) q.Frags),(32,hM q.Frags),(33,bH (i:Int))]) (fun i frag1 place1 h=>?_) (fun e tl ih i frag1 place1 h=>?_) q.Frags 0 mt (0:Int) ⟨J,h⟩) (aZ J)
   ·obtain⟨hx,h⟩:=h
    refine av<|aq<|zo J (eK J J)<|an<|ae<|bp (ht J) (cW hx)<|bg ?_;refine ac (ac (aF ?_));exact bL (K frag1 place1 h) (aZ J)
   ·obtain⟨hx,h⟩:=h
    refine av<|aq<|zo J (eK J J)<|an<|ae<|bo (ht J) (cU hx)<|dA<|ae<|ax<|aq<|aA J<|zo J (iX su lg J J J (cP hx))<|zo J (bz lg J J)<|aO (r:=cM) (x:=Ex) lg (fun _=>nI _) J fun b=>bk J<|ay lg J ap J (ht J) (ht J)<|aL 14 J<|an<|ae ?_;refine ai<|aA J<|aA J<|bF h fun r1 q_r1 h=>ll Vj (Js _ _ q_r1) ⟨(ht J),(ht J),aU⟩ J fun l c1=>bk J<|an<|ae<|aq<|zo J (cd tF mC J J)<|zo J (bz AB J J)<|zo J (ja qy J)<|zo J (bl hI)<|an<|ax<|aV (k:=42) J fun hN1=>bB<|zB<|yC 40 J<|yC 15 J ?_;refine aJ (rm (Z:=fun ls1 i1 frag2 place2=>(e.Nodes.drop i1=ls1)∧se r (o9 r tl) i r1 ls1 i1 frag2 place2=some R) (Of:=fun _ i1 frag2 place2=>[eF bU 55 l c1 r1]) (Gf:=fun _ i1 frag2 place2=>[(7,tD oy r.1),(11,bH frag2),(12,bH place2),(13,bH (i:Int)),(15,tO bU l c1 r1),(31,d7 (cM) q.Frags),(32,hM q.Frags),(33,bH (i:Int)),(43,hM e.Nodes),(44,bH (i1:Int))]) (fun i1 frag2 place2 h=>?_) (fun e1 tl1 ih1 i1 frag2 place2 h=>?_) e.Nodes 0 frag1 place1 ⟨J,h⟩) (aZ J)
    ·obtain⟨hx1,h⟩:=h
     refine av<|aq<|zo J (eK J J)<|an<|ae<|bp (ht J) (cW hx1)<|bg ?_;refine ac (ac (aF ?_));refine au<|aq<|aA rfl<|aA rfl<|zo rfl (bN uj (pC (ht rfl)))<|zo rfl (fK (ht rfl) hI)<|bF h fun e2 q_e2 h=>zo J (bX uj fe J (pC (ht J)) (ht J) q_e2)<|zo J (cd mS gE J J)<|zo J (bz bJ J J)<|zo J (jy J)<|an<|cX h J (fun h=>?_) (fun h=>?_)
     ·refine aq<|aA J<|aA J<|zo J (bN uj (pC (ht J)))<|zo J (fK (ht J) hI)<|bk J<|bk J<|an<|bg ?_;refine bM J (ac (ac (aF ?_)));refine ba ?_;exact bL (K (i:Int) (IntKind.i64.wrap ((r1.length:Int)-(1:Int))) h) (aZ J)
     ·refine bA<|am<|au<|ai<|zo rfl (jU (cz hx hN) rfl)<|aA rfl<|aH<|ba ?_;exact aT (aJ (ih (i+1) frag2 place2 ⟨cy hx,h⟩) (aZ J))
    ·obtain⟨hx1,h⟩:=h
     refine av<|aq<|zo J (eK J J)<|an<|ae<|bo (ht J) (cU hx1)<|dA<|ae<|ax<|aq<|aA J<|bk J<|an<|aq<|aA J<|aA J<|aA J<|aA J ?_;refine bF h fun r2 q_r2 h=>zo J (aD Ym (Tz _ _ _ _ q_r2) ⟨(ht J),(ht J),(ht J),(pC (ht J)),aU⟩)<|zo J (dH (ht J))<|an<|cX h J (fun h=>?_) (fun h=>?_)
     ·refine aq<|aA J<|aA J<|bk J<|bk J<|an<|bg ?_;refine bM J (ac (ac (bM J (ac (bM J (ac (ac (aF ?_))))))));refine ba ?_;exact bL (K (i:Int) (i1:Int) h) (aZ J)
     ·refine bA<|am<|au<|ai<|zo rfl (jU (cz hx1 hN1) rfl)<|aA rfl<|aH ?_;exact aT (aJ (ih1 (i1+1) frag2 place2 ⟨cy hx1,h⟩) (aZ J))

end Go.Proofs.YtmogpgcfognefaaGreatDoor

