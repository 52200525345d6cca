/- cN of this claim: P11. -/
import Derived.Test.YtnmjbolollcokaaGreatDoorRaT
import Derived.Test.YtnmjbolollcokaaGreatDoorRaP10
set_option linter.all false
namespace Go.Proofs.YtnmjbolollcokaaGreatDoor
open Go
set_option maxRecDepth 100000

theorem Ko(l:(List ai)){R:Bool}(h:pq l=some R):bo aX 9 [dS (aj) l] (eD R):=by
 refine bo.of Tryz.func9 J J J fun w0 S0=>ay<|zo J (eL)<|aw<|ae<|ay<|aG J<|zo J (fV oz J)<|zo J (fq (ht J) hI)<|aw<|db h J (fun h=>?_) (fun h=>?_)
 ·refine ay<|zo J (eL)<|aw<|ap<|M ?_;cases so h;exact aU J J
 ·refine dB<|ae<|ay<|aG J<|zo J (fV oz J)<|zo J (bv hI)<|aw<|ax<|bh (k:=12) J fun hN=>bF ?_;refine aT (dH (Z:=fun ls i=>(l.drop i=ls)∧fB ls=some R) (Of:=fun _ i=>[]) (Gf:=fun _ i=>[(12,dS (aj) l),(13,f7 l),(14,bK (i:Int))]) (fun i h=>?_) (fun e tl ih i h=>?_) l 0 ⟨J,h⟩) (bn J)
  ·obtain⟨hx,h⟩:=h
   refine aA<|ay<|zo J (em J J)<|aw<|ae<|bz (ht J) (da hx)<|bk ?_;refine ac (ac (aM ?_));refine aq<|ay<|zo rfl (eL)<|aw<|ap ?_;cases so h;exact aU J J
  ·obtain⟨hx,h⟩:=h
   refine aA<|ay<|zo J (em J J)<|aw<|ae<|bw (ht J) (c9 hx)<|dB<|ae<|ax<|ay<|zo J (jA oz cD J J J (cV hx))<|zo J (bq cD J J)<|bj (r:=aj) (x:=vG) cD (fun _=>gX _) J fun b=>au cD J al J (ht J) (ht J)<|bg 4 J<|aw<|ae<|ay ?_;refine zo J (cc ou js J J)<|zo J (bq cy J J)<|zo J (fV cW J)<|zo J (fq (ht J) hI)<|aG J<|cR J J (fun hg=>cc ms gM J J)<|cR J J (fun hg=>be cy J J (bc J hg))<|cR J J (fun hg=>bY cW (bc J hg))<|cR J J (fun hg=>fq (bc J hg) hI)<|zo J (oB J J)<|aG J<|cR J J (fun hg=>cc pC md J J)<|cR J J (fun hg=>be Br J J (bc J hg))<|cR J J (fun hg=>bY yp (bc J hg))<|cR J J (fun hg=>fq (bc J hg) hI)<|zo J (oB J J)<|aG J<|cR J J (fun hg=>cc k5 gL J J)<|cR J J (fun hg=>be rY J J (bc J hg))<|cR J J (fun hg=>bY nv (bc J hg))<|cR J J (fun hg=>fq (bc J hg) hI)<|zo J (oB J J)<|aG J<|cR J J (fun hg=>cc jW iA J J) ?_;refine cR J J (fun hg=>be ro J J (bc J hg))<|cR J J (fun hg=>bY ny (bc J hg))<|cR J J (fun hg=>fq (bc J hg) hI)<|zo J (oB J J)<|aG J<|bG h fun t q_t h=>cR J J (fun hg=>cc pA kj J J)<|cR J J (fun hg=>be fe J J (bc J hg)) ?_
   obtain⟨r,h1t,h0t⟩:=og q_t
   have q_rg:=fun hb=>(h1t hb).1
   refine cR J J (fun hg=>aF JD (B7 _ (q_rg hg)) ⟨(bc J hg),aV⟩)<|zo J (dx (ht J) (fun hb=>(bc J (mj hb))) (fun hb=>(h1t hb).2) h0t)<|aw<|db h J (fun h=>?_) (fun h=>?_)
   ·refine ay<|zo J (eL)<|aw<|ap ?_;refine M (aH (M (M (aH (M ?_)))));cases so h;exact aU J J
   ·refine dB<|ae<|ay<|zo J (cc k5 gL J J)<|zo J (bq rY J J)<|zo J (fV nv J)<|zo J (bv hI)<|aw<|ax<|bh (k:=52) J fun hN1=>bF ?_;refine aT (dH (Z:=fun ls1 i1=>(e.Items.drop i1=ls1)∧j6 (fB tl) e ls1=some R) (Of:=fun _ i1=>[]) (Gf:=fun _ i1=>[(4,bl aj e),(12,dS (aj) l),(13,f7 l),(14,bK (i:Int)),(52,dS (bu) e.Items),(53,f7 e.Items),(54,bK (i1:Int))]) (fun i1 h=>?_) (fun e1 tl1 ih1 i1 h=>?_) e.Items 0 ⟨J,h⟩) (bn J)
    ·obtain⟨hx1,h⟩:=h
     refine aA<|ay<|zo J (em J J)<|aw<|ae<|bz (ht J) (da hx1)<|bk ?_;refine ac (ac (aM ?_));refine aq<|ay<|zo rfl (cc jW iA rfl rfl)<|zo rfl (bq ro rfl rfl)<|zo rfl (fV ny rfl)<|zo rfl (bv hI)<|aw<|ax<|bh (k:=62) J fun hN2=>bF ?_;refine aT (dH (Z:=fun ls2 i2=>(e.Aggs.drop i2=ls2)∧j5 (fB tl) ls2=some R) (Of:=fun _ i2=>[]) (Gf:=fun _ i2=>[(12,dS (aj) l),(13,f7 l),(14,bK (i:Int)),(62,dS (df) e.Aggs),(63,f7 e.Aggs),(64,bK (i2:Int))]) (fun i2 h=>?_) (fun e2 tl2 ih2 i2 h=>?_) e.Aggs 0 ⟨J,h⟩) (bn J)
     ·obtain⟨hx2,h⟩:=h
      refine aA<|ay<|zo J (em J J)<|aw<|ae<|bz (ht J) (da hx2)<|bk ?_;refine ac (ac (aM ?_));refine an<|aq<|am<|zo rfl (jY (cG hx hN) rfl)<|aG rfl<|aQ ?_;exact bf (aT (ih (i+1) ⟨cF hx,h⟩) (bn J))
     ·obtain⟨hx2,h⟩:=h
      refine aA<|ay<|zo J (em J J)<|aw<|ae<|bw (ht J) (c9 hx2)<|dB<|ae<|ax<|ay<|zo J (jA ny lU J J J (cV hx2))<|zo J (bq lU J J)<|bj (r:=df) (x:=F7) lU (fun _=>tH _) J fun b1=>au lU J al J (ht J) (ht J)<|bg 8 J<|aw<|ay<|zo J (cc wr qJ J J) ?_;refine zo J (bq fe J J)<|bG h fun r1 q_r1 h=>zo J (aF JD (B7 _ q_r1) ⟨(ht J),aV⟩)<|aw<|db h J (fun h=>?_) (fun h=>?_)
      ·refine ay<|zo J (eL)<|aw<|ap ?_;refine aH (M (M (aH (aH (M (M (aH (M ?_))))))));cases so h;exact aU J J
      ·refine bE<|an<|aq<|am<|zo rfl (jY (cG hx2 hN2) rfl)<|aG rfl<|aQ ?_;exact bf (aT (ih2 (i2+1) ⟨cF hx2,h⟩) (bn J))
    ·obtain⟨hx1,h⟩:=h
     refine aA<|ay<|zo J (em J J)<|aw<|ae<|bw (ht J) (c9 hx1)<|dB<|ae<|ax<|ay<|zo J (jA nv fe J J J (cV hx1))<|zo J (bq fe J J)<|bj (r:=bu) (x:=mT) fe (fun _=>mD _) J fun b2=>au fe J al J (ht J) (ht J)<|bg 6 J<|aw<|ay<|zo J (bq fe J J) ?_;refine bG h fun r2 q_r2 h=>zo J (aF JD (B7 _ q_r2) ⟨(ht J),aV⟩)<|aw<|db h J (fun h=>?_) (fun h=>?_)
     ·refine ay<|zo J (eL)<|aw<|ap ?_;refine aH (M (M (aH (M (aH (M (M (aH (M ?_)))))))));cases so h;exact aU J J
     ·refine bE<|an<|aq<|am<|zo rfl (jY (cG hx1 hN1) rfl)<|aG rfl<|aQ ?_;exact bf (aT (ih1 (i1+1) ⟨cF hx1,h⟩) (bn J))

theorem Jg(p:bI){R:Bool}(h:kY p=some R):bo aX 16 [tD br p] (eD R):=by
 refine bo.of Tryz.func16 J J J fun w0 S0=>ay<|zo J (gP J)<|zo J (eL)<|aw<|ae<|ay<|zo J (cc eC dF J J)<|zo J (bq lk J J)<|zo J (fV jX J)<|zo J (fq (ht J) hI)<|aw<|db h J (fun h=>?_) (fun h=>?_)
 ·refine ay<|zo J (eL)<|aw<|ap<|M ?_;cases so h;exact aU J J
 ·refine dB<|ae<|ay<|zo J (cc eC dF J J)<|zo J (bq lk J J)<|zo J (fV jX J)<|zo J (bv hI)<|aw<|ax<|bh (k:=10) J fun hN=>bF ?_;refine aT (dH (Z:=fun ls i=>(p.Frags.drop i=ls)∧gx ls=some R) (Of:=fun _ i=>[]) (Gf:=fun _ i=>[(10,dS (aR) p.Frags),(11,f7 p.Frags),(12,bK (i:Int))]) (fun i h=>?_) (fun e tl ih i h=>?_) p.Frags 0 ⟨J,h⟩) (bn J)
  ·obtain⟨hx,h⟩:=h
   refine aA<|ay<|zo J (em J J)<|aw<|ae<|bz (ht J) (da hx)<|bk ?_;refine ac (ac (aM ?_));refine aq<|ay<|zo rfl (eL)<|aw<|ap ?_;cases so h;exact aU J J
  ·obtain⟨hx,h⟩:=h
   refine aA<|ay<|zo J (em J J)<|aw<|ae<|bw (ht J) (c9 hx)<|dB<|ae<|ax<|ay<|zo J (jA jX kc J J J (cV hx))<|zo J (bq kc J J)<|bj (r:=aR) (x:=HX) kc (fun _=>sA _) J fun b=>au kc J al J (ht J) (ht J)<|bg 4 J<|aw<|ay<|zo J (cc IN D1 J J) ?_;refine zo J (bq cy J J)<|zo J (fV cW J)<|zo J (fq (ht J) hI)<|aG J<|bG h fun t q_t h=>cR J J (fun hg=>cc qM ky J J)<|cR J J (fun hg=>be kE J J (bc J hg)) ?_
   obtain⟨r,h1t,h0t⟩:=og q_t
   have q_rg:=fun hb=>(h1t hb).1
   refine cR J J (fun hg=>aF cb9 (Ko _ (q_rg hg)) ⟨(bc J hg),aV⟩)<|zo J (dx (ht J) (fun hb=>(bc J (mj hb))) (fun hb=>(h1t hb).2) h0t)<|aw<|db h J (fun h=>?_) (fun h=>?_)
   ·refine ay<|zo J (eL)<|aw<|ap ?_;refine aH (M (M (aH (M ?_))));cases so h;exact aU J J
   ·refine bE<|an<|aq<|am<|zo rfl (jY (cG hx hN) rfl)<|aG rfl<|aQ ?_;exact bf (aT (ih (i+1) ⟨cF hx,h⟩) (bn J))

theorem I1(frag:Int)(node:Int)(s:aN)(x:Int){R:Bool}(h:pm frag node s x=some R):bo aX 50 [tD bC s,bK x,bl bR frag,bl bR node] (eD R):=by
 refine bo.of Tryz.func50 J J J fun w0 S0=>ay<|zo J (gP J)<|zo J (eL)<|aw<|ay<|zo J (cc BZ nT J J)<|zo J (bq bD J J)<|zo J (bq bD J J)<|zo J (bW (ht J) (ht J))<|aG J<|cb J J (fun hg=>cc BY nS J J)<|cb J J (fun hg=>be bD J J (bc J hg))<|cb J J (fun hg=>bq bD J J)<|cb J J (fun hg=>bW (bc J hg) (bc J hg))<|zo J (kG J J)<|bB J<|aw<|ap ?_;cases so h;exact aU J J

theorem Jf(p:bI)(frag:Int)(nodes:Int)(node:Int){R:(List aN)×Int}(h:ly p frag nodes node=some R):bo aX 18 [tD br p,bK frag,bK nodes,bK node] (tT [dS (bC) R.1,bK R.2]):=by
 refine bo.of Tryz.func18 J J J fun w0 S0=>ay<|zo J (gP J)<|zo J (gP J)<|zo J (gP J)<|zo J (aP (show aL _ _ _ Bl from hP))<|zo J (dW)<|aw<|ae<|ay<|zo J (bq fT J J)<|zo J (bq bD J J)<|aG J<|bG h fun r q_r h=>zo J (aF FJ (ww _ _ _ q_r) ⟨(ht J),(ht J),(ht J),aV⟩)<|bB J<|aw<|ay<|aG J ?_;refine zo J (zQ J)<|aw<|db h J (fun h=>?_) (fun h=>?_)
 ·refine ay<|aG J<|zo J (aP (show aL _ _ _ Bl from hP))<|bB J<|aw<|ap<|M ?_;cases so h;exact cw J J J
 ·refine dB<|ay<|zo J (bq fT J J)<|aG J<|zo J ((show bN _ _ _ _ ((eS aX yA kb (fun(x:aN×Int)=>(pm frag node) x.1 x.2)))from jo (cts:=[bl bR frag,bl bR node]) (caps:=[.tmp 5,.tmp 7]) MK ⟨(ht J),(ht J),aV⟩ (fun x y h=>I1 _ _ _ _ h)))<|bG h fun r1 q_r1 h=>zo J (aF JB (B5 _ _ _ q_r1) ⟨(ht J),(ht J),(ht J),aV⟩)<|bB J<|zo J (dW)<|aw<|ap ?_;cases so h;exact cw J J J

theorem I0(frag:Int)(node:Int)(s:aN)(to1:Int){R:Bool}(h:qz frag node s to1=some R):bo aX 51 [tD bC s,bK to1,bl bR frag,bl bR node] (eD R):=by
 refine bo.of Tryz.func51 J J J fun w0 S0=>ay<|zo J (gP J)<|zo J (eL)<|aw<|ay<|aG J<|zo J (bq bD J J)<|zo J (bW (ht J) (ht J))<|aG J<|cb J J (fun hg=>cc BX nR J J)<|cb J J (fun hg=>be bD J J (bc J hg))<|cb J J (fun hg=>bq bD J J)<|cb J J (fun hg=>bW (bc J hg) (bc J hg))<|zo J (kG J J)<|bB J<|aw<|ap ?_;cases so h;exact aU J J

theorem Je(p:bI)(frag:Int)(nodes:Int)(node:Int){R:(List aN)×Int}(h:mQ p frag nodes node=some R):bo aX 19 [tD br p,bK frag,bK nodes,bK node] (tT [dS (bC) R.1,bK R.2]):=by
 refine bo.of Tryz.func19 J J J fun w0 S0=>ay<|zo J (gP J)<|zo J (gP J)<|zo J (gP J)<|zo J (aP (show aL _ _ _ Bl from hP))<|zo J (dW)<|aw<|ae<|ay<|zo J (bq fT J J)<|zo J (bq bD J J)<|aG J<|bG h fun r q_r h=>zo J (aF FJ (ww _ _ _ q_r) ⟨(ht J),(ht J),(ht J),aV⟩)<|bB J<|aw<|ay<|aG J ?_;refine zo J (zQ J)<|aw<|db h J (fun h=>?_) (fun h=>?_)
 ·refine ay<|aG J<|zo J (aP (show aL _ _ _ Bl from hP))<|bB J<|aw<|ap<|M ?_;cases so h;exact cw J J J
 ·refine dB<|ay<|zo J (bq fT J J)<|aG J<|zo J ((show bN _ _ _ _ ((eS aX yA kb (fun(x:aN×Int)=>(qz frag node) x.1 x.2)))from jo (cts:=[bl bR frag,bl bR node]) (caps:=[.tmp 5,.tmp 7]) MJ ⟨(ht J),(ht J),aV⟩ (fun x y h=>I0 _ _ _ _ h)))<|bG h fun r1 q_r1 h=>zo J (aF JB (B5 _ _ _ q_r1) ⟨(ht J),(ht J),(ht J),aV⟩)<|bB J<|zo J (dW)<|aw<|ap ?_;cases so h;exact cw J J J

theorem Fm(p:bI)(frag:Int){R:Int}(h:mK p frag=some R):bo aX 20 [tD br p,bK frag] (bK R):=by
 refine bo.of Tryz.func20 J J J fun w0 S0=>ay<|zo J (gP J)<|zo J (dW)<|aw<|ae<|ay<|zo J (dW)<|aw<|ax<|bF ?_;refine aT (zC (Z:=fun n i=>fa p frag n i=some R) (Of:=fun i=>[]) (Gf:=fun i=>[(1,bK frag),(2,bl br p),(5,bK i)]) (fun i h=>nn h) (fun n ih i h=>?_) kp (0:Int) h) (bn J);refine aA<|ae<|ay<|aG J<|zo J (cc eC dF J J)<|zo J (bq lk J J)<|zo J (fV jX J)<|zo J (em J J)<|aw<|db h J (fun h=>?_) (fun h=>?_)
 ·refine dB<|ae<|ax<|ay<|zo J (dW)<|aw<|ax<|bF ?_;refine aT (zC (Z:=fun n1 k=>ga p frag (fa p frag n) i n1 k=some R) (Of:=fun k=>[]) (Gf:=fun k=>[(1,bK frag),(2,bl br p),(5,bK i),(6,bK k)]) (fun k h=>nn h) (fun n1 ih1 k h=>?_) kp (0:Int) h) (bn J);refine aA<|ae<|ay<|aG J<|zo J (cc eC dF J J)<|zo J (bq lk J J)<|aG J<|bG h fun e q_e h=>zo J (jA jX kc J J J q_e)<|zo J (cc qM ky J J)<|zo J (bq kE J J)<|zo J (fV oz J)<|zo J (em J J)<|aw<|db h J (fun h=>?_) (fun h=>?_)
  ·refine dB<|ae<|ax<|ay<|zo J (cc eC dF J J)<|zo J (bq lk J J)<|aG J<|zo J (jA jX kc J J J q_e)<|zo J (cc qM ky J J)<|zo J (bq kE J J)<|aG J<|bG h fun e1 q_e1 h=>zo J (jA oz cD J J J q_e1)<|zo J (cc pD ju J J)<|zo J (bq bD J J)<|zo J (jS J)<|aG J<|cb J J (fun hg=>cc eC dF J J)<|cb J J (fun hg=>be lk J J (bc J hg))<|cb J J (fun hg=>cn J)<|cb J J (fun hg=>aO jX kc J (bc J hg) (bc J hg) q_e)<|cb J J (fun hg=>ft qM J ky J (bc J hg)) ?_;refine cb J J (fun hg=>be kE J J (bc J hg))<|cb J J (fun hg=>cn J)<|cb J J (fun hg=>aO oz cD J (bc J hg) (bc J hg) q_e1)<|cb J J (fun hg=>ft pB J jt J (bc J hg))<|cb J J (fun hg=>be bD J J (bc J hg))<|cb J J (fun hg=>cn J)<|cb J J (fun hg=>bW (bc J hg) (bc J hg))<|zo J (kG J J)<|aw<|db h J (fun h=>?_) (fun h=>?_)
   ·refine ay<|aG J<|bB J<|aw<|ap ?_;refine aH (M (M (aH (aH (M (M (aH (M ?_))))))));cases so h;exact aU J J
   ·refine bE<|an<|aq<|am<|aG rfl<|zo rfl (jp (ht rfl) hI)<|bB rfl<|aQ ?_;exact bf (aT (ih1 (IntKind.i64.wrap (k+(1:Int))) h) (bn J))
  ·refine bk ?_;refine ac (ac (aM ?_));refine an<|aq<|am<|aG rfl<|zo rfl (jp (ht rfl) hI)<|bB rfl<|aQ ?_;exact bf (aT (ih (IntKind.i64.wrap (i+(1:Int))) h) (bn J))
 ·refine bk ?_;refine ac (ac (aM ?_));refine aq<|ay<|zo rfl (dW)<|aw<|ap ?_;cases so h;exact aU J J

theorem B9(a1:(List aN))(b:(List aN)){R:Bool}(h:eV a1 b=some R):bo aX 21 [dS (bC) a1,dS (bC) b] (eD R):=by
 refine bo.of Tryz.func21 J J J fun w0 S0=>ay<|zo J (eL)<|aw<|ae<|ay<|aG J<|zo J (fV rP J)<|aG J<|zo J (fV rP J)<|zo J (cK (ht J) (ht J))<|aw<|db h J (fun h=>?_) (fun h=>?_)
 ·refine ay<|zo J (eL)<|aw<|ap<|M ?_;cases so h;exact aU J J
 ·refine dB<|ae<|ay<|aG J<|zo J (fV rP J)<|zo J (bv hI)<|aw<|ax<|bh (k:=11) J fun hN=>bF ?_;refine aT (dH (Z:=fun ls i=>(a1.drop i=ls)∧eP b ls i=some R) (Of:=fun _ i=>[]) (Gf:=fun _ i=>[(0,dS (bC) a1),(1,dS (bC) b),(12,f7 a1),(13,bK (i:Int))]) (fun i h=>?_) (fun e tl ih i h=>?_) a1 0 ⟨J,h⟩) (bn J)
  ·obtain⟨hx,h⟩:=h
   refine aA<|ay<|zo J (em J J)<|aw<|ae<|bz (ht J) (da hx)<|bk ?_;refine ac (ac (aM ?_));refine aq<|ay<|zo rfl (eL)<|aw<|ap ?_;cases so h;exact aU J J
  ·obtain⟨hx,h⟩:=h
   refine aA<|ay<|zo J (em J J)<|aw<|ae<|bw (ht J) (c9 hx)<|dB<|ae<|ax<|ay<|aG J<|bB J<|aw<|ae<|bG h fun e1 q_e1 h=>?_
   refine ec (ts:=[_,_,_,_,_,_,_,_,_]) mixed J J
    ⟨dT 0 J J J (cn J),
    ⟨dT 5 J J J (cn J),
    ⟨dL 16 0 17 1 J J J J (jA rP p9 J J J (cV hx)),
    ⟨cP 18 2 J J J (bq p9 J J),
    ⟨dT 1 J J J (cn J),
    ⟨dT 5 J J J (cn J),
    ⟨dL 20 4 21 5 J J J J (jA rP p9 J J J q_e1),
    ⟨cP 22 6 J J J (bq p9 J J),
    ⟨dL 19 3 23 7 J J J J (yY Mn (ht J) (ht J)),
    aV⟩⟩⟩⟩⟩⟩⟩⟩⟩ ?_
   refine aq<|db h rfl (fun h=>?_) (fun h=>?_)
   ·refine ay<|zo J (eL)<|aw<|ap ?_;refine aH (M (M (aH (M ?_))));cases so h;exact aU J J
   ·refine bE<|an<|aq<|am<|zo rfl (jY (cG hx hN) rfl)<|aG rfl<|aQ ?_;exact bf (aT (ih (i+1) ⟨cF hx,h⟩) (bn J))

theorem GH(p:bI)(frag:Int)(nodes:Int){R:(List Int)}(h:ik p frag nodes=some R):eG aX 24 [tD br p,bK frag,bK nodes] false bR 3 R:=by
 refine eG.of Tryz.func24 J J J fun w0 S0=>ay<|zo J (gP J)<|bM false bR 3<|zo J (aP oS)<|aw<|ae<|ay<|zo J (cc eC dF J J)<|zo J (bq lk J J)<|aG J<|bG h fun e q_e h=>zo J (jA jX kc J J J q_e)<|zo J (cc Ff xQ J J)<|zo J (bq bD J J)<|zo J (jS J)<|aw<|db h J (fun h=>?_) (fun h=>?_)
 ·refine ay<|gz (r:=bR) (ys:=[(0:Int)]) (xs:=[.const (.int .i64 (0))]) cW bD J J J J J ⟨hI,aV⟩ J fun l c=>bB J<|aw<|ap<|M ?_;cases so h;exact el J J
 ·refine dB<|ay<|bM false bR 3<|zo J (aP oS)<|aw<|ae<|ay<|zo J (dW)<|aw<|ax<|bF<|ep<|lS ?_;refine aT (tu (Z:=fun n out l1 c1 i=>gb nodes n out i=some R) (Of:=fun out l1 c1 i=>[d9 bR 3 l1 c1 out]) (Gf:=fun out l1 c1 i=>[(2,bK nodes),(7,mg l1 c1 out),(8,bK i)]) (fun out l1 c1 i h=>nn h) (fun n ih out l1 c1 i h=>?_) kp mE none 0 (1:Int) h) (bn J);refine aA<|ae<|ay<|aG J<|aG J<|zo J (io (ht J) (ht J))<|aw<|db h J (fun h=>?_) (fun h=>?_)
  ·refine dB<|ae<|ax<|am<|aG J<|aG J<|zo J (aS (r:=bR) (ys:=[i]) (xs:=[.tmp 23]) cW bD J J J J J ⟨(ht J),aV⟩)<|bG h fun out1 q_out1 h=>cM bD J J J J cW J J (ht J) (ht J) q_out1 fun l2 c2=>bB J<|aQ<|an<|aq<|am<|aG rfl<|zo rfl (jp (ht rfl) hI)<|bB rfl<|aQ ?_;exact bf (aT (ih out1 l2 c2 (IntKind.i64.wrap (i+(1:Int))) h) (bn J))
  ·refine bk ?_;refine ac (ac (aM ?_));refine aq<|ay<|aG rfl<|bB rfl<|aw<|ap ?_;cases so h;exact el J J
theorem B8(p:bI)(frag:Int)(nodes:Int){R:(List Int)}(h:ik p frag nodes=some R):bo aX 24 [tD br p,bK frag,bK nodes] (dE R):=(GH _ _ _ h).spec

theorem CP(p:bI)(nodes:Int)(s:aN)(to1:Int){R:(List aN)}(h:iJ p nodes s to1=some R):eG aX 22 [tD br p,bK nodes,tD bC s,bK to1] false bC 52 R:=by
 refine eG.of Tryz.func22 J J J fun w0 S0=>ay<|zo J (gP J)<|zo J (gP J)<|bM false bC 52<|zo J (aP oS)<|aw<|ay<|bM false bC 52<|zo J (aP oS)<|aw<|ae<|ay<|zo J (dW)<|aw<|ax<|bF<|ep ?_;refine lS ?_;refine aT (tu (Z:=fun n out l c k=>cS p nodes s to1 n out k=some R) (Of:=fun out l c k=>[d9 bC 52 l c out]) (Gf:=fun out l c k=>[(1,bK nodes),(3,bK to1),(4,bl br p),(6,bl bC s),(9,mg l c out),(10,bK k)]) (fun out l c k h=>nn h) (fun n ih out l c k h=>?_) kp ([]:List aN) none 0 (0:Int) h) (bn J);refine aA<|ae<|ay<|aG J<|zo J (cc eC dF J J)<|zo J (bq lk J J)<|zo J (fV jX J)<|zo J (em J J)<|aw<|db h J (fun h=>?_) (fun h=>?_)
 ·refine dB<|ae ?_;refine Em (Z:=fun out1 l1 c1=>fC (cS p nodes s to1 n) k out1=some R) (Of:=fun out1 l1 c1=>[d9 bC 52 l1 c1 out1]) (Gf:=fun out1 l1 c1=>[(1,bK nodes),(3,bK to1),(4,bl br p),(6,bl bC s),(9,mg l1 c1 out1),(10,bK k)]) (fun out1 l1 c1 h=>?_) (fun K=>?_)
  ·skip
   refine aq<|am<|aG rfl<|zo rfl (jp (ht rfl) hI)<|bB rfl<|aQ ?_;exact bf (aT (ih out1 l1 c1 (IntKind.i64.wrap (k+(1:Int))) h) (bn J))
  ·skip
   refine ay<|zo J (bq fT J J)<|aG J<|bG h fun r q_r h=>zo J (aF Lf (Fm _ _ q_r) ⟨(ht J),(ht J),aV⟩)<|bB J<|aw<|ae<|ay<|aG J<|zo J (eg (ht J) hI)<|aG J<|cR J J (fun hg=>cc BZ nT J J)<|cR J J (fun hg=>be bD J J (bc J hg))<|cR J J (fun hg=>dm (bc J hg) hI)<|cR J J (fun hg=>bv (bc J hg))<|dk J J J J (fun hg=>cn J)<|dk J J J J (fun hg=>cc BZ nT J J)<|dk J J J J (fun hg=>be bD J J (bc J hg))<|dk J J J J (fun hg=>cK (bc J hg) (bc J hg))<|cR J J (fun hg=>ki (bc J hg) (fun hb=>(bc J (nC hg hb)))) ?_;refine zo J (oB J J)<|aG J<|cR J J (fun hg=>cn J)<|cR J J (fun hg=>dm (bc J hg) hI)<|cR J J (fun hg=>bv (bc J hg))<|dk J J J J (fun hg=>cn J)<|dk J J J J (fun hg=>cn J)<|dk J J J J (fun hg=>cK (bc J hg) (bc J hg))<|cR J J (fun hg=>ki (bc J hg) (fun hb=>(bc J (nC hg hb))))<|zo J (oB J J)<|aw<|db h J (fun h=>?_) (fun h=>?_)
   ·refine bk ?_;refine ac (aM ?_);exact ce (K out l c h) (bn J)
   ·refine dB<|ae<|bG h fun r1 q_r1 h=>bG h fun r2 q_r2 h=>?_
    refine ec (ts:=[_,_,_,_,_,_,_,_,_,_]) mixed J J
     ⟨dT 4 J J J (bq fT J J),
     ⟨dT 10 J J J (cn J),
     ⟨dT 1 J J J (cn J),
     ⟨rt 48 0 49 1 50 2 J J J J J (aF JE (B8 _ _ _ q_r1) ⟨(ht J),(ht J),(ht J),aV⟩),
     ⟨dT 4 J J J (bq fT J J),
     ⟨dT 11 J J J (cn J),
     ⟨dT 1 J J J (cn J),
     ⟨rt 52 4 53 5 54 6 J J J J J (aF JE (B8 _ _ _ q_r2) ⟨(ht J),(ht J),(ht J),aV⟩),
     ⟨cP 51 3 J J J (tK J),
     ⟨cP 55 7 J J J (tK J),
     aV⟩⟩⟩⟩⟩⟩⟩⟩⟩⟩ ?_
    refine aq<|ay<|zo rfl (dW)<|aw<|ax<|bh (k:=12) J fun hN=>bF ?_;refine aT (jx (Z:=fun ls i out2 l2 c2=>(r1.drop i=ls)∧ez s (cS p nodes s to1 n) k r2 ls out2=some R) (Of:=fun _ i out2 l2 c2=>[d9 bC 52 l2 c2 out2]) (Gf:=fun _ i out2 l2 c2=>[(1,bK nodes),(3,bK to1),(4,bl br p),(6,bl bC s),(9,mg l2 c2 out2),(10,bK k),(12,dE r1),(13,dE r2),(14,bK (i:Int))]) (fun i out2 l2 c2 h=>?_) (fun e tl ih1 i out2 l2 c2 h=>?_) r1 0 out l c ⟨J,h⟩) (bn J)
    ·obtain⟨hx,h⟩:=h
     refine aA<|ae<|ay<|aG J<|aG J<|zo J (fV cW J)<|zo J (em J J)<|aw<|bz (ht J) (da hx)<|bk ?_;refine ac (ac (aM ?_));refine an ?_;exact ce (K out2 l2 c2 h) (bn J)
    ·obtain⟨hx,h⟩:=h
     refine aA<|ae<|ay<|aG J<|aG J<|zo J (fV cW J)<|zo J (em J J)<|aw<|bw (ht J) (c9 hx)<|dB<|ae<|ax<|ay<|zo J (dW)<|aw<|ax<|bh (k:=13) J fun hN1=>bF ?_;refine aT (jx (Z:=fun ls1 i1 out3 l3 c3=>(r2.drop i1=ls1)∧ew s k (ez s (cS p nodes s to1 n) k r2 tl) e ls1 out3=some R) (Of:=fun _ i1 out3 l3 c3=>[d9 bC 52 l3 c3 out3]) (Gf:=fun _ i1 out3 l3 c3=>[(1,bK nodes),(3,bK to1),(4,bl br p),(6,bl bC s),(9,mg l3 c3 out3),(10,bK k),(12,dE r1),(13,dE r2),(14,bK (i:Int)),(15,bK (i1:Int))]) (fun i1 out3 l3 c3 h=>?_) (fun e1 tl1 ih2 i1 out3 l3 c3 h=>?_) r2 0 out2 l2 c2 ⟨J,h⟩) (bn J)
     ·obtain⟨hx1,h⟩:=h
      refine aA<|ae<|ay<|aG J<|aG J<|zo J (fV cW J)<|zo J (em J J)<|aw<|bz (ht J) (da hx1)<|bk ?_;refine ac (ac (aM ?_));refine an<|aq<|am<|aG rfl<|zo rfl (jY (cG hx hN) rfl)<|bB rfl<|aQ ?_;exact bf (aT (ih1 (i+1) out3 l3 c3 ⟨cF hx,h⟩) (bn J))
     ·obtain⟨hx1,h⟩:=h
      refine aA<|ae<|ay<|aG J<|aG J<|zo J (fV cW J)<|zo J (em J J)<|aw<|bw (ht J) (c9 hx1)<|dB<|ae<|ax<|ae ?_
      refine ec (ts:=[_,_,_,_,_,_,_,_,_,_,_,_,_,_,_,_,_,_,_,_,_,_,_,_,_,_]) mixed J J
       ⟨dT 6 J J J (cc BY nS J J),
       ⟨cP 68 0 J J J (bq bD J J),
       ⟨cP 69 1 J J J (eg (ht J) hI),
       ⟨cP 70 2 J J J (cn J),
       ⟨nz 12 71 3 J J J J (fy J J J J (fun hg=>cn J)),
       ⟨nz 14 71 3 J J J J (fy J J J J (fun hg=>cn J)),
       ⟨rs 72 4 73 5 71 3 J J J J J (fy J J J J (fun hg=>aO cW bD J (bc J hg) (bc J hg) (cV hx))),
       ⟨ie 74 6 71 3 J J J J (fy J J J J (fun hg=>be bD J J (bc J hg))),
       ⟨nz 6 71 3 J J J J (fy J J J J (fun hg=>cc BY nS J J)),
       ⟨ie 76 8 71 3 J J J J (fy J J J J (fun hg=>be bD J J (bc J hg))),
       ⟨rs 75 7 77 9 71 3 J J J J J (fy J J J J (fun hg=>bW (bc J hg) (bc J hg))),
       ⟨dL 71 3 78 10 J J J J (oB J J),
       ⟨cP 79 11 J J J (cn J),
       ⟨nz 6 80 12 J J J J (dg J J J J (fun hg=>cc BX nR J J)),
       ⟨ie 81 13 80 12 J J J J (dg J J J J (fun hg=>be bD J J (bc J hg))),
       ⟨ie 82 14 80 12 J J J J (dg J J J J (fun hg=>eg (bc J hg) hI)),
       ⟨ie 83 15 80 12 J J J J (dg J J J J (fun hg=>bv (bc J hg))),
       ⟨nz 13 84 16 J J J J (pP J J J J (fun hg=>cn J)),
       ⟨nz 15 84 16 J J J J (pP J J J J (fun hg=>cn J)),
       ⟨rs 85 17 86 18 84 16 J J J J J (pP J J J J (fun hg=>aO cW bD J (bc J hg) (bc J hg) (cV hx1))),
       ⟨ie 87 19 84 16 J J J J (pP J J J J (fun hg=>be bD J J (bc J hg))),
       ⟨nz 6 84 16 J J J J (pP J J J J (fun hg=>cc BX nR J J)),
       ⟨ie 89 21 84 16 J J J J (pP J J J J (fun hg=>be bD J J (bc J hg))),
       ⟨rs 88 20 90 22 84 16 J J J J J (pP J J J J (fun hg=>bW (bc J hg) (bc J hg))),
       ⟨rs 84 16 91 23 80 12 J J J J J (dg J J J J (fun hg=>lA (bc J hg) (fun hb=>(bc J (nC hg (mj hb)))))),
       ⟨dL 80 12 92 24 J J J J (kG J J),
       aV⟩⟩⟩⟩⟩⟩⟩⟩⟩⟩⟩⟩⟩⟩⟩⟩⟩⟩⟩⟩⟩⟩⟩⟩⟩⟩ ?_
      refine aq<|db h rfl (fun h=>?_) (fun h=>?_)
      ·refine hZ 12 (ts:=[mg l3 c3 out3,bK k,dE r1,bK (i:Int),bl bR e,bK e,dE r2,bK (i1:Int),bl bR e1,bK e1,tD bC (⟨k,e,e1⟩:aN),dS (bC) ([(⟨k,e,e1⟩:aN)])]) mixed J J J
        ⟨dT 9 J J J (cn J),
        ⟨dT 10 J J J (cn J),
        ⟨dT 12 J J J (cn J),
        ⟨dT 14 J J J (cn J),
        ⟨dL 96 2 97 3 J J J J (jA cW bD J J J (cV hx)),
        ⟨cP 98 4 J J J (bq bD J J),
        ⟨dT 13 J J J (cn J),
        ⟨dT 15 J J J (cn J),
        ⟨dL 100 6 101 7 J J J J (jA cW bD J J J (cV hx1)),
        ⟨cP 102 8 J J J (bq bD J J),
        ⟨rt 95 1 99 5 103 9 J J J J J (cr (y:=(⟨k,e,e1⟩:aN)) p9 Fa mN (⟨_,_,_,_,_,J,lZ,J,(ht J),⟨_,_,_,_,_,J,lY,J,(ht J),⟨_,_,_,_,_,J,lX,J,(ht J),J⟩⟩⟩)),
        ⟨cP 104 10 J J J (aS (r:=bC) (ys:=[(⟨k,e,e1⟩:aN)]) (xs:=[.tmp 104]) rP p9 J J J J J ⟨(ht J),aV⟩),
        aV⟩⟩⟩⟩⟩⟩⟩⟩⟩⟩⟩⟩ ?_
       refine bG h fun out4 q_out4 h=>cM p9 J J J J rP J J (ht J) (ht J) q_out4 fun l4 c4=>bB J<|aQ<|an<|aq<|am<|aG rfl<|zo rfl (jY (cG hx1 hN1) rfl)<|bB rfl<|aQ ?_;exact bf (aT (ih2 (i1+1) out4 l4 c4 ⟨cF hx1,h⟩) (bn J))
      ·refine bE<|an<|aq<|am<|aG rfl<|zo rfl (jY (cG hx1 hN1) rfl)<|bB rfl<|aQ ?_;exact bf (aT (ih2 (i1+1) out3 l3 c3 ⟨cF hx1,h⟩) (bn J))
 ·refine bk ?_;refine ac (ac (aM ?_));refine aq<|ay<|aG rfl<|bB rfl<|aw<|ap ?_;cases so h;exact el J J
theorem Fl(p:bI)(nodes:Int)(s:aN)(to1:Int){R:(List aN)}(h:iJ p nodes s to1=some R):bo aX 22 [tD br p,bK nodes,tD bC s,bK to1] (dS (bC) R):=(CP _ _ _ _ h).spec

end Go.Proofs.YtnmjbolollcokaaGreatDoor

