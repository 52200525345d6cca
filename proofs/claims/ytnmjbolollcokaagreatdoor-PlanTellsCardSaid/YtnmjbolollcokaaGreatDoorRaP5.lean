/- cN of this claim: P5. -/
import Derived.Test.YtnmjbolollcokaaGreatDoorRaT
import Derived.Test.YtnmjbolollcokaaGreatDoorRaP4
set_option linter.all false
namespace Go.Proofs.YtnmjbolollcokaaGreatDoor
open Go
set_option maxRecDepth 100000

theorem IZ(t:ci){R:Bool}(h:mw t=some R):bo aX 58 [tD c0 t] (eD R):=by
 refine bo.of Tryz.func58 J J J fun w0 S0=>ay<|zo J (gP J)<|zo J (eL)<|aw<|ay<|zo J (bq rX J J)<|bG h fun r q_r h=>zo J (aF MH (IY _ q_r) ⟨(ht J),aV⟩)<|zo J (zQ J)<|bB J<|aw<|ap ?_;cases so h;exact aU J J

theorem CX(s:(List ci))(f:(ci→Option Bool)){R:Int}(h:dX s f=some R):bo aX 100 [dS (c0) s,(eS aX sB kb (fun(x:ci)=>f x))] (bK R):=by
 refine bo.of Tryz.func100 J J J fun w0 S0=>ay<|zo J (dW)<|aw<|ae<|ay<|aG J<|zo J (fV yq J)<|zo J (bv hI)<|aw<|ax<|bh (k:=6) J fun hN=>bF ?_;refine aT (dH (Z:=fun ls i=>(s.drop i=ls)∧dC f ls i=some R) (Of:=fun _ i=>[]) (Gf:=fun _ i=>[(0,dS (c0) s),(1,(eS aX sB kb (fun(x:ci)=>f x))),(7,f7 s),(8,bK (i:Int))]) (fun i h=>?_) (fun e tl ih i h=>?_) s 0 ⟨J,h⟩) (bn J)
 ·obtain⟨hx,h⟩:=h
  refine aA<|ay<|zo J (em J J)<|aw<|ae<|bz (ht J) (da hx)<|bk ?_;refine ac (ac (aM ?_));refine aq<|ay<|zo rfl (dW)<|aw<|ap ?_;cases so h;exact aU J J
 ·obtain⟨hx,h⟩:=h
  refine aA<|ay<|zo J (em J J)<|aw<|ae<|bw (ht J) (c9 hx)<|dB<|ae<|ax<|ay<|aG J<|bB J<|aw<|ay<|aG J<|aG J<|aG J<|zo J (jA yq rX J J J (cV hx)) ?_;refine zo J (bq rX J J)<|bG h fun r q_r h=>zo J (gu (args:=sB) (res:=Bm) (f:=(fun(x:ci)=>f x)) (x:=((e):ci)) (ht J) q_r ⟨(ht J),aV⟩)<|aw<|db h J (fun h=>?_) (fun h=>?_)
  ·refine ay<|aG J<|bB J<|aw<|ap ?_;refine aH (M (M (aH (M ?_))));cases so h;exact aU J J
  ·refine bE<|an<|aq<|am<|zo rfl (jY (cG hx hN) rfl)<|aG rfl<|aQ ?_;exact bf (aT (ih (i+1) ⟨cF hx,h⟩) (bn J))

theorem IX(s:(List ci))(f:(ci→Option Bool)){R:Bool}(h:eE s f=some R):bo aX 60 [dS (c0) s,(eS aX sB kb (fun(x:ci)=>f x))] (eD R):=by
 refine bo.of Tryz.func60 J J J fun w0 S0=>ay<|zo J (eL)<|aw<|ay<|aG J<|aG J<|bG h fun r q_r h=>zo J (aF HN (CX _ _ q_r) ⟨(ht J),(ht J),aV⟩)<|zo J (dm (ht J) hI)<|bB J<|aw<|ap ?_;cases so h;exact aU J J

theorem G6(of:(ci→Option jy))(name:jy)(p:ci){R:Bool}(h:gN of name p=some R):bo aX 177 [tD c0 p,bl (rT ((eS aX sB rn (fun(x:ci)=>of x)))) (),bl rS name] (eD R):=by
 refine bo.of Tryz.func177 J J J fun w0 S0=>ay<|zo J (gP J)<|zo J (eL)<|aw<|ae<|bG h fun r q_r h=>?_
 refine ec (ts:=[_,_,_,_,_,_]) mixed J J
  ⟨dT 1 J J J (sQ J9 (ht J)),
  ⟨dT 3 J J J (bq rX J J),
  ⟨dL 5 0 6 1 J J J J (gu (args:=sB) (res:=rn) (f:=(fun(x:ci)=>of x)) (x:=((p):ci)) (ht J) q_r ⟨(ht J),aV⟩),
  ⟨dT 2 J J J (bq Dr J J),
  ⟨dL 7 2 8 3 J J J J (vo (ht J) (ht J)),
  ⟨cP 9 4 J J J (tK J),
  aV⟩⟩⟩⟩⟩⟩ ?_
 refine aq<|ap ?_;cases so h;exact aU J J

theorem Hj(l:(List ci))(of:(ci→Option jy))(name:jy){R:Int×Bool}(h:ld l of name=some R):bo aX 101 [dS (c0) l,(eS aX sB rn (fun(x:ci)=>of x)),tD rS name] (tT [bK R.1,eD R.2]):=by
 refine bo.of Tryz.func101 J J J fun w0 S0=>ay<|zo J (y5 (ht J))<|zo J (gP J)<|zo J (dW)<|zo J (eL)<|aw<|ay<|aG J<|zo J ((show bN _ _ _ _ ((eS aX sB kb (fun(x:ci)=>(gN of name) x)))from jo (cts:=[bl (rT ((eS aX sB rn (fun(x:ci)=>of x)))) (),bl rS name]) (caps:=[.tmp 4,.tmp 5]) Lk ⟨(ht J),(ht J),aV⟩ (fun x y h=>G6 _ _ _ h)))<|bG h fun r q_r h=>zo J (aF HN (CX _ _ q_r) ⟨(ht J),(ht J),aV⟩)<|bB J<|aw<|ay<|aG J<|zo J (yZ (ht J) hI)<|aG J<|zo J (dm (ht J) hI) ?_;refine bB J<|bB J<|aw<|ap ?_;cases so h;exact cw J J J

theorem IW(l:(List ci))(of:(ci→Option jy)){R:Bool}(h:lc l of=some R):bo aX 61 [dS (c0) l,(eS aX sB rn (fun(x:ci)=>of x))] (eD R):=by
 refine bo.of Tryz.func61 J J J fun w0 S0=>ay<|zo J (eL)<|aw<|ae<|ay<|aG J<|zo J (fV yq J)<|zo J (bv hI)<|aw<|ax<|bh (k:=9) J fun hN=>bF ?_;refine aT (dH (Z:=fun ls i=>(l.drop i=ls)∧fX l of ls i=some R) (Of:=fun _ i=>[]) (Gf:=fun _ i=>[(0,dS (c0) l),(1,(eS aX sB rn (fun(x:ci)=>of x))),(9,dS (c0) l),(10,f7 l),(11,bK (i:Int))]) (fun i h=>?_) (fun e tl ih i h=>?_) l 0 ⟨J,h⟩) (bn J)
 ·obtain⟨hx,h⟩:=h
  refine aA<|ay<|zo J (em J J)<|aw<|ae<|bz (ht J) (da hx)<|bk ?_;refine ac (ac (aM ?_));refine aq<|ay<|zo rfl (eL)<|aw<|ap ?_;cases so h;exact aU J J
 ·obtain⟨hx,h⟩:=h
  refine aA<|ay<|zo J (em J J)<|aw<|ae<|bw (ht J) (c9 hx)<|dB<|ae<|ax<|ay<|aG J<|zo J (jA yq rX J J J (cV hx))<|zo J (bq rX J J)<|bj (r:=c0) (x:=(⟨[],[],[]⟩:ci)) rX (fun _=>vF _) J fun b=>bB J<|au rX J al J (ht J) (ht J)<|bg 6 J<|aw<|ae ?_;refine am<|aG J<|aG J<|aG J<|zo J (bq rX J J)<|bG h fun r q_r h=>zo J (gu (args:=sB) (res:=rn) (f:=(fun(x:ci)=>of x)) (x:=((e):ci)) (ht J) q_r ⟨(ht J),aV⟩)<|bG h fun r1 q_r1 h=>zo J (aF LN (Hj _ _ _ q_r1) ⟨(ht J),(ht J),(ht J),aV⟩)<|aG J<|zo J (jf J J)<|zo J (jf J J)<|bB J<|bB J<|aw<|ay<|aG J<|aG J<|zo J (cK (ht J) (ht J))<|aG J<|bG h fun t q_t h=>cR J J (fun hg=>cn J) ?_;refine cR J J (fun hg=>bq rX J J) ?_
  obtain⟨r2,h1t,h0t⟩:=og q_t
  have q_r2g:=fun hb=>(h1t hb).1
  refine cR J J (fun hg=>gu (args:=sB) (res:=rn) (f:=(fun(x:ci)=>of x)) (x:=((e):ci)) (bc J hg) (q_r2g hg) ⟨(bc J hg),aV⟩) ?_
  obtain⟨r3,h1t⟩:=Gr (fun hb=>(h1t hb).2)
  have q_r3g:=fun hb=>(h1t hb).1
  refine cR J J (fun hg=>aF Jx (B2 _ (q_r3g hg)) ⟨(bc J hg),aV⟩)<|cR J J (fun hg=>dy (bc J hg))<|zo J (dx (ht J) (fun hb=>(bc J (mj hb))) (fun hb=>(h1t hb).2) h0t)<|aw<|db h J (fun h=>?_) (fun h=>?_)
  ·refine ay<|zo J (eL)<|aw<|ap ?_;refine aH (M (M (aH (M ?_))));cases so h;exact aU J J
  ·refine bE<|an<|aq<|am<|zo rfl (jY (cG hx hN) rfl)<|aG rfl<|aQ ?_;exact bf (aT (ih (i+1) ⟨cF hx,h⟩) (bn J))

theorem IV(t:ci){R:jy}(h:nZ t=some R):bo aX 62 [tD c0 t] (tD rS R):=by
 refine bo.of Tryz.func62 J J J fun w0 S0=>ay<|zo J (gP J)<|zo J (aP hS)<|aw<|ay<|zo J (cc Fe wo J J)<|zo J (bq Dr J J)<|bB J<|aw<|ap ?_;cases so h;exact aU J J

theorem I7(c:fi){R:Int}(h:rJ c=some R):bo aX 32 [tD dY c] (bK R):=by
 refine bo.of Tryz.func32 J J J fun w0 S0=>ay<|zo J (gP J)<|zo J (dW)<|aw<|ay<|zo J (aP (show aL _ _ _ ((eS aX sB kb (fun(x:ci)=>mw x)))from(ID MI fun x y h=>IZ _ h)))<|aw<|ae<|ay<|zo J (cc uj jL J J)<|zo J (bq Du J J)<|zo J (fV yq J)<|zo J (fq (ht J) hI)<|aG J<|bG h fun t q_t h=>cR J J (fun hg=>cc uj jL J J)<|cR J J (fun hg=>be Du J J (bc J hg))<|cR J J (fun hg=>cn J) ?_
 obtain⟨r,h1t,h0t⟩:=og q_t
 have q_rg:=fun hb=>(h1t hb).1
 refine cR J J (fun hg=>aF MG (IX _ _ (q_rg hg)) ⟨(bc J hg),(bc J hg),aV⟩)<|zo J (dx (ht J) (fun hb=>(bc J (mj hb))) (fun hb=>(h1t hb).2) h0t)<|aG J<|bG h fun t1 q_t1 h=>cR J J (fun hg=>cc uj jL J J)<|cR J J (fun hg=>be Du J J (bc J hg)) ?_
 obtain⟨r1,h1t1,h0t1⟩:=og q_t1
 have q_r1g:=fun hb=>(h1t1 hb).1
 refine cR J J (fun hg=>aF MF (IW _ _ (q_r1g hg)) ⟨(bc J hg),(ID ME fun x y h=>IV _ h),aV⟩)<|cR J J (fun hg=>dy (bc J hg))<|zo J (dx (ht J) (fun hb=>(bc J (mj hb))) (fun hb=>(h1t1 hb).2) h0t1)<|aw<|db h J (fun h=>?_) (fun h=>?_)
 ·refine ay<|zo J (dW)<|aw<|ap<|M ?_;cases so h;exact aU J J
 ·refine dB<|ay<|zo J (dW)<|aw<|ap ?_;cases so h;exact aU J J

theorem B3(s1:(List Int))(s2:(List Int)){R:Bool}(h:gk s1 s2=some R):bo aX 63 [dE s1,dE s2] (eD R):=by
 refine bo.of Tryz.func63 J J J fun w0 S0=>ay<|zo J (eL)<|aw<|ae<|ay<|aG J<|zo J (fV cW J)<|aG J<|zo J (fV cW J)<|zo J (cK (ht J) (ht J))<|aw<|db h J (fun h=>?_) (fun h=>?_)
 ·refine ay<|zo J (eL)<|aw<|ap<|M ?_;cases so h;exact aU J J
 ·refine dB<|ae<|ay<|aG J<|zo J (fV cW J)<|zo J (bv hI)<|aw<|ax<|bh (k:=11) J fun hN=>bF ?_;refine aT (dH (Z:=fun ls i=>(s1.drop i=ls)∧g9 s2 ls i=some R) (Of:=fun _ i=>[]) (Gf:=fun _ i=>[(0,dE s1),(1,dE s2),(12,f7 s1),(13,bK (i:Int))]) (fun i h=>?_) (fun e tl ih i h=>?_) s1 0 ⟨J,h⟩) (bn J)
  ·obtain⟨hx,h⟩:=h
   refine aA<|ay<|zo J (em J J)<|aw<|ae<|bz (ht J) (da hx)<|bk ?_;refine ac (ac (aM ?_));refine aq<|ay<|zo rfl (eL)<|aw<|ap ?_;cases so h;exact aU J J
  ·obtain⟨hx,h⟩:=h
   refine aA<|ay<|zo J (em J J)<|aw<|ae<|bw (ht J) (c9 hx)<|dB<|ae<|ax<|ay<|aG J<|bB J<|aw<|ae<|bG h fun e1 q_e1 h=>?_
   refine ec (ts:=[_,_,_,_,_,_,_,_,_]) mixed J J
    ⟨dT 0 J J J (cn J),
    ⟨dT 5 J J J (cn J),
    ⟨dL 16 0 17 1 J J J J (jA cW bD J J J (cV hx)),
    ⟨cP 18 2 J J J (bq bD J J),
    ⟨dT 1 J J J (cn J),
    ⟨dT 5 J J J (cn J),
    ⟨dL 20 4 21 5 J J J J (jA cW bD J J J q_e1),
    ⟨cP 22 6 J J J (bq bD J J),
    ⟨dL 19 3 23 7 J J J J (cK (ht J) (ht J)),
    aV⟩⟩⟩⟩⟩⟩⟩⟩⟩ ?_
   refine aq<|db h rfl (fun h=>?_) (fun h=>?_)
   ·refine ay<|zo J (eL)<|aw<|ap ?_;refine aH (M (M (aH (M ?_))));cases so h;exact aU J J
   ·refine bE<|an<|aq<|am<|zo rfl (jY (cG hx hN) rfl)<|aG rfl<|aQ ?_;exact bf (aT (ih (i+1) ⟨cF hx,h⟩) (bn J))

theorem I6(l:cI)(c:fi){R:Bool}(h:v7 l c=some R):bo aX 33 [tD cv l,tD dY c] (eD R):=by
 refine bo.of Tryz.func33 J J J fun w0 S0=>ay<|zo J (gP J)<|zo J (gP J)<|zo J (eL)<|aw<|ae<|ay<|zo J (cc mt gK J J)<|zo J (bq kE J J)<|zo J (fV oz J)<|zo J (bv hI)<|aw<|ax<|bh (k:=11) J fun hN=>bF ?_;refine aT (dH (Z:=fun ls i=>(l.Nodes.drop i=ls)∧iK c ls=some R) (Of:=fun _ i=>[]) (Gf:=fun _ i=>[(3,bl dY c),(11,dS (aj) l.Nodes),(12,f7 l.Nodes),(13,bK (i:Int))]) (fun i h=>?_) (fun e tl ih i h=>?_) l.Nodes 0 ⟨J,h⟩) (bn J)
 ·obtain⟨hx,h⟩:=h
  refine aA<|ay<|zo J (em J J)<|aw<|ae<|bz (ht J) (da hx)<|bk ?_;refine ac (ac (aM ?_));refine aq<|ay<|zo rfl (eL)<|aw<|ap ?_;cases so h;exact aU J J
 ·obtain⟨hx,h⟩:=h
  refine aA<|ay<|zo J (em J J)<|aw<|ae<|bw (ht J) (c9 hx)<|dB<|ae ?_;refine yi (Z:=oh (iK c tl)=some R) (Of:=[]) (Gf:=[(3,bl dY c),(11,dS (aj) l.Nodes),(12,f7 l.Nodes),(13,bK (i:Int))]) (fun h=>?_) (fun K=>?_)
  ·skip
   refine aq<|am<|zo rfl (jY (cG hx hN) rfl)<|aG rfl<|aQ ?_;exact bf (aT (ih (i+1) ⟨cF hx,h⟩) (bn J))
  ·skip
   refine ay<|zo J (jA oz cD J J J (cV hx))<|zo J (bq cD J J)<|bj (r:=aj) (x:=vG) cD (fun _=>gX _) J fun b=>au cD J al J (ht J) (ht J)<|bg 6 J<|aw<|ae<|ay<|zo J (cc pD ju J J)<|zo J (bq bD J J)<|zo J (zQ J)<|aw<|db h J (fun h=>?_) (fun h=>?_)
   ·refine bk ?_;refine ac (aM ?_);exact ce (K h) (bn J)
   ·refine dB<|ae<|ay<|zo J (cc pB jt J J)<|zo J (bq bD J J)<|zo J (cc uj jL J J)<|zo J (bq Du J J)<|zo J (fV yq J)<|zo J (dm (ht J) (ht J))<|aw<|db h J (fun h=>?_) (fun h=>?_)
    ·refine ay<|zo J (eL)<|aw<|ap ?_;refine M (aH (M (M (aH (M ?_)))));cases so h;exact aU J J
    ·refine dB<|ay<|bM false bR 3<|zo J (aP oS)<|aw<|ae<|ay<|zo J (cc uj jL J J)<|zo J (bq Du J J)<|zo J (cc pB jt J J)<|zo J (bq bD J J)<|bG h fun e1 q_e1 h=>zo J (jA yq rX J J J q_e1)<|zo J (cc ui lG J J)<|zo J (bq Dt J J)<|zo J (fV tF J)<|zo J (bv hI)<|aw<|ax ?_;refine bh (k:=32) J fun hN1=>bF ?_;refine aT (jx (Z:=fun ls1 i1 kinds l1 c1=>(e1.Columns.drop i1=ls1)∧oe (iK c tl) e ls1 kinds=some R) (Of:=fun _ i1 kinds l1 c1=>[d9 bR 3 l1 c1 kinds]) (Gf:=fun _ i1 kinds l1 c1=>[(3,bl dY c),(6,bl aj e),(7,mg l1 c1 kinds),(11,dS (aj) l.Nodes),(12,f7 l.Nodes),(13,bK (i:Int)),(32,dS (cX) e1.Columns),(33,f7 e1.Columns),(34,bK (i1:Int))]) (fun i1 kinds l1 c1 h=>?_) (fun e2 tl1 ih1 i1 kinds l1 c1 h=>?_) e1.Columns 0 mE none 0 ⟨J,h⟩) (bn J)
     ·obtain⟨hx1,h⟩:=h
      refine aA<|ay<|zo J (em J J)<|aw<|ae<|bz (ht J) (da hx1)<|bk ?_;refine ac (ac (aM ?_));refine aq<|ay<|aG rfl<|zo rfl (cc ou js rfl rfl)<|zo rfl (bq cy rfl rfl)<|lK<|oL 7 rfl<|oL 44 rfl<|bG h fun r q_r h=>zo J (aF Jz (B3 _ _ q_r) ⟨(iR (ht J)),(ht J),aV⟩)<|zo J (dy (ht J))<|aw<|db h J (fun h=>?_) (fun h=>?_)
      ·refine ay<|zo J (eL)<|aw<|ap ?_;refine aH (M (M (aH (M ?_))));refine ba ?_;cases so h;exact aU J J
      ·refine bE<|an<|ba ?_;exact ce (K h) (bn J)
     ·obtain⟨hx1,h⟩:=h
      refine aA<|ay<|zo J (em J J)<|aw<|ae<|bw (ht J) (c9 hx1)<|dB<|ae<|ax<|ay<|zo J (jA tF nA J J J (cV hx1))<|zo J (bq nA J J)<|bj (r:=cX) (x:=HT) nA (fun _=>mO _) J fun b1=>au nA J al J (ht J) (ht J)<|bg 9 J<|aw<|am<|aG J<|zo J (cc Fc uO J J) ?_;refine zo J (bq bD J J)<|zo J (aS (r:=bR) (ys:=[e2.Kind]) (xs:=[.tmp 40]) cW bD J J J J J ⟨(ht J),aV⟩)<|bG h fun kinds1 q_kinds1 h=>cM bD J J J J cW J J (ht J) (ht J) q_kinds1 fun l2 c2=>bB J<|aQ<|an<|aq<|am<|zo rfl (jY (cG hx1 hN1) rfl)<|aG rfl<|aQ ?_;exact bf (aT (ih1 (i1+1) kinds1 l2 c2 ⟨cF hx1,h⟩) (bn J))

theorem Fx(s:(List jP)){R:(List jP)}(h:ea s=some R):eG aX 102 [dS (gE) s] false gE 173 R:=by
 refine eG.of Tryz.func102 J J J fun w0 S0=>ay<|bM false gE 173<|zo J (aP oS)<|aw<|ae<|ay<|aG J<|oM yp (ht J) J fun isnil hisnil=>aw<|lh (ht J) (fun hc=>?_) (fun hc=>?_)
 ·have hx:=hisnil hc
  have h:some ([]:List jP)=some R:=by simpa [ea,kB,hx] using h
  refine ay<|bM false gE 173<|zo J (aP oS)<|aw<|ap<|M ?_;cases so h;exact el J J
 ·refine dB<|ay<|gz (r:=gE) (ys:=([]:List jP)) (xs:=[]) yp Cw J J J J J trivial J fun l c=>aG J<|bG h fun x q_x h=>cM Cw J J J J yp J J (ht J) (ht J) q_x fun l1 c1=>bB J<|aw<|ap ?_;cases so h;exact el J J
theorem Hi(s:(List jP)){R:(List jP)}(h:ea s=some R):bo aX 102 [dS (gE) s] (dS (gE) R):=(Fx _ h).spec

theorem wx(s:(List bT)){R:(List bT)}(h:ck s=some R):eG aX 103 [dS (aY) s] false aY 130 R:=by
 refine eG.of Tryz.func103 J J J fun w0 S0=>ay<|bM false aY 130<|zo J (aP oS)<|aw<|ae<|ay<|aG J<|oM je (ht J) J fun isnil hisnil=>aw<|lh (ht J) (fun hc=>?_) (fun hc=>?_)
 ·have hx:=hisnil hc
  have h:some ([]:List bT)=some R:=by simpa [ck,kB,hx] using h
  refine ay<|bM false aY 130<|zo J (aP oS)<|aw<|ap<|M ?_;cases so h;exact el J J
 ·refine dB<|ay<|gz (r:=aY) (ys:=([]:List bT)) (xs:=[]) je dc J J J J J trivial J fun l c=>aG J<|bG h fun x q_x h=>cM dc J J J J je J J (ht J) (ht J) q_x fun l1 c1=>bB J<|aw<|ap ?_;cases so h;exact el J J
theorem CW(s:(List bT)){R:(List bT)}(h:ck s=some R):bo aX 103 [dS (aY) s] (dS (aY) R):=(wx _ h).spec

theorem Fw(s:(List kF)){R:(List kF)}(h:eY s=some R):eG aX 104 [dS (df) s] false df 78 R:=by
 refine eG.of Tryz.func104 J J J fun w0 S0=>ay<|bM false df 78<|zo J (aP oS)<|aw<|ae<|ay<|aG J<|oM ny (ht J) J fun isnil hisnil=>aw<|lh (ht J) (fun hc=>?_) (fun hc=>?_)
 ·have hx:=hisnil hc
  have h:some Ex=some R:=by simpa [eY,kB,hx] using h
  refine ay<|bM false df 78<|zo J (aP oS)<|aw<|ap<|M ?_;cases so h;exact el J J
 ·refine dB<|ay<|gz (r:=df) (ys:=Ex) (xs:=[]) ny lU J J J J J trivial J fun l c=>aG J<|bG h fun x q_x h=>cM lU J J J J ny J J (ht J) (ht J) q_x fun l1 c1=>bB J<|aw<|ap ?_;cases so h;exact el J J
theorem Fv(s:(List bA)){R:(List bA)}(h:ev s=some R):eG aX 105 [dS (bu) s] false bu 67 R:=by
 refine eG.of Tryz.func105 J J J fun w0 S0=>ay<|bM false bu 67<|zo J (aP oS)<|aw<|ae<|ay<|aG J<|oM nv (ht J) J fun isnil hisnil=>aw<|lh (ht J) (fun hc=>?_) (fun hc=>?_)
 ·have hx:=hisnil hc
  have h:some ([]:List bA)=some R:=by simpa [ev,kB,hx] using h
  refine ay<|bM false bu 67<|zo J (aP oS)<|aw<|ap<|M ?_;cases so h;exact el J J
 ·refine dB<|ay<|gz (r:=bu) (ys:=([]:List bA)) (xs:=[]) nv fe J J J J J trivial J fun l c=>aG J<|bG h fun x q_x h=>cM fe J J J J nv J J (ht J) (ht J) q_x fun l1 c1=>bB J<|aw<|ap ?_;cases so h;exact el J J
theorem IU(n:ai)(by1:Int){R:ai}(h:sT n by1=some R):bo aX 64 [tD aj n,bK by1] (tD aj R):=by
 refine bo.of Tryz.func64 J J J fun w0 S0=>ay<|n7 (ht J) J fun b=>bj (r:=aj) (x:=vG) cD (fun _=>gX _) J fun b1=>aw ?_;refine ge (Z:=fun n1=>mp by1 n1=some R) (Of:=fun n1=>[bx aj 72 b n1,bx aj 72 b1 vG]) (Gf:=fun n1=>[(1,bK by1),(2,tV (aE b 0)),(4,tV (aE b1 0))]) (fun n1 h=>?_) (fun K=>?_)
 ·skip
  refine ge (Z:=fun n2=>mo n2=some R) (Of:=fun n2=>[bx aj 72 b n2,bx aj 72 b1 vG]) (Gf:=fun n2=>[(2,tV (aE b 0)),(4,tV (aE b1 0))]) (fun n2 h=>?_) (fun K1=>?_)
  ·skip
   refine ae<|bG h fun r q_r h=>bG h fun r1 q_r1 h=>bG h fun r2 q_r2 h=>?_
   refine hZ 10 (ts:=[tV (aE b 4),dE n2.Kinds,dE r,tV (aE b 7),dE n2.Keys,dE r1,tV (aE b 10),dS (gE) n2.Order,dS (gE) r2,tV (aE b 4)]) mixed J J J
    ⟨dT 2 J J J (d3 4 ou J J J),
    ⟨cP 23 0 J J J (aW cy J J js (.head _) (ht J)),
    ⟨cP 24 1 J J J (aF AN (zl _ q_r) ⟨(ht J),aV⟩),
    ⟨dT 2 J J J (d3 7 ms J J J),
    ⟨cP 26 3 J J J (aW cy J J gM (.head _) (ht J)),
    ⟨cP 27 4 J J J (aF AN (zl _ q_r1) ⟨(ht J),aV⟩),
    ⟨dT 2 J J J (d3 10 pC J J J),
    ⟨cP 29 6 J J J (aW Br J J md (.head _) (ht J)),
    ⟨cP 30 7 J J J (aF LM (Hi _ q_r2) ⟨(ht J),aV⟩),
    ⟨dT 2 J J J (d3 4 ou J J J),
    aV⟩⟩⟩⟩⟩⟩⟩⟩⟩⟩ ?_
   refine au cy J o6 J (ht J) (ht J)<|zo J (d3 7 ms J J J)<|au cy J vS J (ht J) (ht J)<|zo J (d3 10 pC J J J)<|au Br J uF J (ht J) (ht J)<|aw<|ay<|zo J (d3 6 pA J J J)<|zo J (d3 6 d2 J J J)<|zo J (aW jT J J (m9 kj cC) (.head _) (ht J))<|bG h fun r3 q_r3 h=>hY CZ (wx _ q_r3) ⟨(ht J),aV⟩ J fun l c=>zo J (d3 6 pA J J J)<|zo J (d3 6 d2 J J J)<|lK<|oL 38 J<|bQ<|au jT J (qZ kj sa tN) J (ht J) (iR (ht J))<|aw<|ae<|bG h fun r4 q_r4 h=>?_
   obtain⟨r5,q_r5,h⟩:=bs h
   refine gA 7 [tc (tV (aE b 8)),tc (dS (df) (({(ai.mk n2.Op n2.A n2.B n2.Table r n2.Left n2.Cond r1 n2.Aggs n2.Items r2 n2.Limit)with Cond:=({(ai.mk n2.Op n2.A n2.B n2.Table r n2.Left n2.Cond r1 n2.Aggs n2.Items r2 n2.Limit).Cond with Nodes:=r3}:bA)}:ai).Aggs)),([2],fun s=>tV (aC ((s.getD 0 lm).h 0).1 ((s.getD 0 lm).h 0).2 r4.length)),tc (tV (aE b 9)),tc (dS (bu) (({(ai.mk n2.Op n2.A n2.B n2.Table r n2.Left n2.Cond r1 n2.Aggs n2.Items r2 n2.Limit)with Cond:=({(ai.mk n2.Op n2.A n2.B n2.Table r n2.Left n2.Cond r1 n2.Aggs n2.Items r2 n2.Limit).Cond with Nodes:=r3}:bA)}:ai).Items)),([5],fun s=>tV (aC ((s.getD 0 lm).h 0).1 ((s.getD 0 lm).h 0).2 r5.length)),tc (tV (aE b 8))] [false,false,true,false,false,true,false] [fun _=>[bx aj 72 b ({(ai.mk n2.Op n2.A n2.B n2.Table r n2.Left n2.Cond r1 n2.Aggs n2.Items r2 n2.Limit)with Cond:=({(ai.mk n2.Op n2.A n2.B n2.Table r n2.Left n2.Cond r1 n2.Aggs n2.Items r2 n2.Limit).Cond with Nodes:=r3}:bA)}:ai),bV aY 130 l c r3,bx aj 72 b1 vG],fun sg=>[d9 df 78 ((sg 2).h 0).1 ((sg 2).h 0).2 r4,bx aj 72 b ({(ai.mk n2.Op n2.A n2.B n2.Table r n2.Left n2.Cond r1 n2.Aggs n2.Items r2 n2.Limit)with Cond:=({(ai.mk n2.Op n2.A n2.B n2.Table r n2.Left n2.Cond r1 n2.Aggs n2.Items r2 n2.Limit).Cond with Nodes:=r3}:bA)}:ai),bV aY 130 l c r3,bx aj 72 b1 vG],fun sg=>[d9 bu 67 ((sg 5).h 0).1 ((sg 5).h 0).2 r5,d9 df 78 ((sg 2).h 0).1 ((sg 2).h 0).2 r4,bx aj 72 b ({(ai.mk n2.Op n2.A n2.B n2.Table r n2.Left n2.Cond r1 n2.Aggs n2.Items r2 n2.Limit)with Cond:=({(ai.mk n2.Op n2.A n2.B n2.Table r n2.Left n2.Cond r1 n2.Aggs n2.Items r2 n2.Limit).Cond with Nodes:=r3}:bA)}:ai),bV aY 130 l c r3,bx aj 72 b1 vG]] J mixed J J J J J
    ⟨⟨[⟨2,fun _=>tV (aE b 0),none⟩],_,0,0,J,⟨(fun _=>J),aV⟩,J,J,J,J,J,fun _ sg _ _=>af J (d3 8 jW J J J)⟩,
    ⟨⟨[⟨41,fun _=>tV (aE b 8),some 0⟩],_,0,0,J,⟨(fun _=>J),aV⟩,J,J,J,J,J,sC (fun sg=>af J (aW ro J J iA (.head _) (ht J)))⟩,
    ⟨⟨[⟨42,fun _=>tD (dG df) (({(ai.mk n2.Op n2.A n2.B n2.Table r n2.Left n2.Cond r1 n2.Aggs n2.Items r2 n2.Limit)with Cond:=({(ai.mk n2.Op n2.A n2.B n2.Table r n2.Left n2.Cond r1 n2.Aggs n2.Items r2 n2.Limit).Cond with Nodes:=r3}:bA)}:ai).Aggs),some 1⟩],_,J,⟨(fun _=>J),aV⟩,J,J,J,fun sg=>bZ J (xZ (xs:=[.tmp 42]) (ts:=[tD (dG df) (({(ai.mk n2.Op n2.A n2.B n2.Table r n2.Left n2.Cond r1 n2.Aggs n2.Items r2 n2.Limit)with Cond:=({(ai.mk n2.Op n2.A n2.B n2.Table r n2.Left n2.Cond r1 n2.Aggs n2.Items r2 n2.Limit).Cond with Nodes:=r3}:bA)}:ai).Aggs)]) LL (Fw _ q_r4) ⟨(ht J),aV⟩)⟩,
    ⟨⟨[⟨2,fun _=>tV (aE b 0),none⟩],_,0,1,J,⟨(fun _=>J),aV⟩,J,J,J,J,J,fun _ sg _ _=>af J (d3 9 k5 J J J)⟩,
    ⟨⟨[⟨44,fun _=>tV (aE b 9),some 3⟩],_,0,1,J,⟨(fun _=>J),aV⟩,J,J,J,J,J,yC (fun sg=>af J (aW rY J J gL (.head _) (ht J))) (sC (fun sg=>af J (aW rY J J gL (.tail _ (.head _)) (ht J))))⟩,
    ⟨⟨[⟨45,fun _=>tD (dG bu) (({(ai.mk n2.Op n2.A n2.B n2.Table r n2.Left n2.Cond r1 n2.Aggs n2.Items r2 n2.Limit)with Cond:=({(ai.mk n2.Op n2.A n2.B n2.Table r n2.Left n2.Cond r1 n2.Aggs n2.Items r2 n2.Limit).Cond with Nodes:=r3}:bA)}:ai).Items),some 4⟩],_,J,⟨(fun _=>J),aV⟩,J,J,J,fun sg=>bZ J (xZ (xs:=[.tmp 45]) (ts:=[tD (dG bu) (({(ai.mk n2.Op n2.A n2.B n2.Table r n2.Left n2.Cond r1 n2.Aggs n2.Items r2 n2.Limit)with Cond:=({(ai.mk n2.Op n2.A n2.B n2.Table r n2.Left n2.Cond r1 n2.Aggs n2.Items r2 n2.Limit).Cond with Nodes:=r3}:bA)}:ai).Items)]) LK (Fv _ q_r5) ⟨(ht J),aV⟩)⟩,
    ⟨⟨[⟨2,fun _=>tV (aE b 0),none⟩],_,1,2,J,⟨(fun _=>J),aV⟩,J,J,J,J,J,fun _ sg _ _=>af J (d3 8 jW J J J)⟩,
    aV⟩⟩⟩⟩⟩⟩⟩ (fun sg=>?_)
   refine(show RG _ _ _ _ [d9 bu 67 ((sg 5).h 0).1 ((sg 5).h 0).2 r5,d9 df 78 ((sg 2).h 0).1 ((sg 2).h 0).2 r4,bx aj 72 b ({(ai.mk n2.Op n2.A n2.B n2.Table r n2.Left n2.Cond r1 n2.Aggs n2.Items r2 n2.Limit)with Cond:=({(ai.mk n2.Op n2.A n2.B n2.Table r n2.Left n2.Cond r1 n2.Aggs n2.Items r2 n2.Limit).Cond with Nodes:=r3}:bA)}:ai),bV aY 130 l c r3,bx aj 72 b1 vG] _ from ?_);refine du<|iD ro J (rZ _ _) J (ht J) (F2 (ht J))<|zo J (d3 9 k5 J J J)<|iD rY J (o0 _ _ _) J (ht J) (F2 (ht J))<|aw<|ae<|ay<|zo J (d3 8 jW J J J)<|zo J (jI ro nb (.head _) J (ht J))<|zo J (eJ ny (.tail _ (.tail _ (.head _))) (ht J))<|zo J (bv hI)<|aw<|ax<|iF (.tail _ (.tail _ (.head _))) fun hN=>bF<|lM<|lS<|ep<|jO<|jO<|lM ?_;refine aT (j7 (Z:=fun ls i n3=>(r4.drop i=ls)∧mn ls i n3=some R) (Of:=fun _ i n3=>[bx aj 72 b1 vG,bx gm 72 b (jJ n3 (aC ((sg 2).h 0).1 ((sg 2).h 0).2 n3.Aggs.length) (aC ((sg 5).h 0).1 ((sg 5).h 0).2 n3.Items.length)),d9 df 78 ((sg 2).h 0).1 ((sg 2).h 0).2 n3.Aggs,d9 bu 67 ((sg 5).h 0).1 ((sg 5).h 0).2 n3.Items]) (Gf:=fun _ i n3=>[(2,tV (aE b 0)),(4,tV (aE b1 0)),(51,f7 r4),(52,bK (i:Int))]) (fun i n3 h=>?_) (fun e tl ih i n3 h=>?_) r4 0 ({({({(ai.mk n2.Op n2.A n2.B n2.Table r n2.Left n2.Cond r1 n2.Aggs n2.Items r2 n2.Limit)with Cond:=({(ai.mk n2.Op n2.A n2.B n2.Table r n2.Left n2.Cond r1 n2.Aggs n2.Items r2 n2.Limit).Cond with Nodes:=r3}:bA)}:ai)with Aggs:=r4}:ai)with Items:=r5}:ai) ⟨J,h⟩) (bn J)
   ·obtain⟨hx,h⟩:=h
    refine aA<|ay<|zo J (em J J)<|aw<|ae<|bz (ht J) (da hx)<|bk ?_;refine ac (ac (aM ?_));refine aq<|ae<|ay<|zo rfl (d3 9 k5 rfl rfl rfl)<|zo rfl (jI rY na (.tail _ (.head _)) rfl (ht rfl))<|zo rfl (eJ nv (.tail _ (.tail _ (.tail _ (.head _)))) (ht rfl))<|zo rfl (bv hI)<|aw<|ax<|iF (.tail _ (.tail _ (.tail _ (.head _)))) fun hN1=>bF ?_;refine aT (j7 (Z:=fun ls1 i1 n4=>(n3.Items.drop i1=ls1)∧ml ls1 i1 n4=some R) (Of:=fun _ i1 n4=>[bx aj 72 b1 vG,bx gm 72 b (jJ n4 (aC ((sg 2).h 0).1 ((sg 2).h 0).2 n4.Aggs.length) (aC ((sg 5).h 0).1 ((sg 5).h 0).2 n4.Items.length)),d9 df 78 ((sg 2).h 0).1 ((sg 2).h 0).2 n4.Aggs,d9 bu 67 ((sg 5).h 0).1 ((sg 5).h 0).2 n4.Items]) (Gf:=fun _ i1 n4=>[(2,tV (aE b 0)),(4,tV (aE b1 0)),(72,f7 n3.Items),(73,bK (i1:Int))]) (fun i1 n4 h=>?_) (fun e1 tl1 ih1 i1 n4 h=>?_) n3.Items 0 n3 ⟨J,h⟩) (bn J)
    ·obtain⟨hx1,h⟩:=h
     refine aA<|ay<|zo J (em J J)<|aw<|ae<|bz (ht J) (da hx1)<|bk ?_;refine ac (ac (aM ?_));refine aq<|ay<|du<|lK<|cY<|lK<|zo rfl (m5 (q:=aj) (y:=n4) cD J J J J (.tail _ (.tail _ (.tail _ (.head _)))) (fun _ _ _ ho h=>tf (q9 ho (.tail _ (.head _))) (q9 ho (.head _)) h) (ht J))<|du<|au cD J al J (ht J) (ht J)<|bg 4 J<|aw<|ap<|ba<|ba<|ba ?_;cases so h;exact iI J cD J J J
    ·obtain⟨hx1,h⟩:=h
     refine aA<|ay<|zo J (em J J)<|aw<|ae<|bw (ht J) (c9 hx1)<|dB<|ae<|ax<|ay<|aG J<|bB J<|aw<|bG h fun e2 q_e2 h=>bG h fun r6 q_r6 h=>?_
     refine hZ 12 (ts:=[tV (aE b 9),tV (aC ((sg 5).h 0).1 ((sg 5).h 0).2 n4.Items.length),bK (i1:Int),tV (aE b 9),tV (aC ((sg 5).h 0).1 ((sg 5).h 0).2 n4.Items.length),bK (i1:Int),tV (jg ((sg 5).h 0).1 ((i1:Int).toNat*1+0)),tV (jg ((sg 5).h 0).1 ((i1:Int).toNat*1+0)),dS (aY) e2.Nodes,dS (aY) r6,tV (jg ((sg 5).h 0).1 ((i1:Int).toNat*1+0)),tV (jg ((sg 5).h 0).1 ((i1:Int).toNat*1+0))]) mixed J J J
      ⟨dT 2 J J J (d3 9 k5 J J J),
      ⟨cP 76 0 J J J (jI rY na (.tail _ (.head _)) J (ht J)),
      ⟨dT 6 J J J (cn J),
      ⟨dT 2 J J J (d3 9 k5 J J J),
      ⟨cP 79 3 J J J (jI rY na (.tail _ (.head _)) J (ht J)),
      ⟨dT 6 J J J (cn J),
      ⟨dL 80 4 81 5 J J J J (cj nv fe (.tail _ (.tail _ (.tail _ (.head _)))) (ht J) (ht J) q_e2),
      ⟨cP 82 6 J J J (dJ (o:=(i1:Int).toNat*1+0) (n:=(i1:Int).toNat*1+0) d2 J (.tail _ (.tail _ (.tail _ (.head _)))) q_e2 (ht J) J),
      ⟨cP 83 7 J J J (d8 (r:=bu) (i:=(i1:Int)) (foff:=0) jT J J cC J (.tail _ (.tail _ (.tail _ (.head _)))) q_e2 (ht J)),
      ⟨cP 84 8 J J J (aF CZ (CW _ q_r6) ⟨(ht J),aV⟩),
      ⟨dL 77 1 78 2 J J J J (cj nv fe (.tail _ (.tail _ (.tail _ (.head _)))) (ht J) (ht J) q_e2),
      ⟨cP 86 10 J J J (dJ (o:=(i1:Int).toNat*1+0) (n:=(i1:Int).toNat*1+0) d2 J (.tail _ (.tail _ (.tail _ (.head _)))) q_e2 (ht J) J),
      aV⟩⟩⟩⟩⟩⟩⟩⟩⟩⟩⟩⟩ ?_
     refine cY<|bG h fun st q_st h=>jM jT J tN J q_e2 (so q_st) (ht J) (ht J)<|dR (eH (so q_st)) 77 J<|dR (eH (so q_st)) 80 J<|tq (O' :=[d9 bu 67 ((sg 5).h 0).1 ((sg 5).h 0).2 st,bx aj 72 b1 vG,bx gm 72 b (jJ n4 (aC ((sg 2).h 0).1 ((sg 2).h 0).2 n4.Aggs.length) (aC ((sg 5).h 0).1 ((sg 5).h 0).2 st.length)),d9 df 78 ((sg 2).h 0).1 ((sg 2).h 0).2 n4.Aggs]) (by rw [eH (so q_st)])<|aQ<|an<|aq<|am<|zo rfl (jY (cG hx1 hN1) rfl)<|aG rfl<|aQ<|bm<|bm<|bm ?_;exact bf (aT (ih1 (i1+1) ({n4 with Items:=st}:ai) ⟨cF hx1,h⟩) (bn J))
   ·obtain⟨hx,h⟩:=h
    refine aA<|ay<|zo J (em J J)<|aw<|ae<|bw (ht J) (c9 hx)<|dB<|ae<|ax<|ay<|aG J<|bB J<|aw<|bG h fun e3 q_e3 h=>bG h fun r7 q_r7 h=>?_
    refine hZ 14 (ts:=[tV (aE b 8),tV (aC ((sg 2).h 0).1 ((sg 2).h 0).2 n3.Aggs.length),bK (i:Int),tV (aE b 8),tV (aC ((sg 2).h 0).1 ((sg 2).h 0).2 n3.Aggs.length),bK (i:Int),tV (jg ((sg 2).h 0).1 ((i:Int).toNat*2+0)),tV (jg ((sg 2).h 0).1 ((i:Int).toNat*2+1)),tV (jg ((sg 2).h 0).1 ((i:Int).toNat*2+1)),dS (aY) e3.Arg.Nodes,dS (aY) r7,tV (jg ((sg 2).h 0).1 ((i:Int).toNat*2+0)),tV (jg ((sg 2).h 0).1 ((i:Int).toNat*2+1)),tV (jg ((sg 2).h 0).1 ((i:Int).toNat*2+1))]) mixed J J J
     ⟨dT 2 J J J (d3 8 jW J J J),
     ⟨cP 55 0 J J J (jI ro nb (.tail _ (.head _)) J (ht J)),
     ⟨dT 5 J J J (cn J),
     ⟨dT 2 J J J (d3 8 jW J J J),
     ⟨cP 58 3 J J J (jI ro nb (.tail _ (.head _)) J (ht J)),
     ⟨dT 5 J J J (cn J),
     ⟨dL 59 4 60 5 J J J J (cj ny lU (.tail _ (.tail _ (.head _))) (ht J) (ht J) q_e3),
     ⟨cP 61 6 J J J (dJ (o:=(i:Int).toNat*2+0) (n:=(i:Int).toNat*2+1) wr J (.tail _ (.tail _ (.head _))) q_e3 (ht J) J),
     ⟨cP 62 7 J J J (dJ (o:=(i:Int).toNat*2+1) (n:=(i:Int).toNat*2+1) d2 J (.tail _ (.tail _ (.head _))) q_e3 (ht J) J),
     ⟨cP 63 8 J J J (d8 (r:=df) (i:=(i:Int)) (foff:=1) jT J J (m9 qJ cC) J (.tail _ (.tail _ (.head _))) q_e3 (ht J)),
     ⟨cP 64 9 J J J (aF CZ (CW _ q_r7) ⟨(ht J),aV⟩),
     ⟨dL 56 1 57 2 J J J J (cj ny lU (.tail _ (.tail _ (.head _))) (ht J) (ht J) q_e3),
     ⟨cP 66 11 J J J (dJ (o:=(i:Int).toNat*2+0) (n:=(i:Int).toNat*2+1) wr J (.tail _ (.tail _ (.head _))) q_e3 (ht J) J),
     ⟨cP 67 12 J J J (dJ (o:=(i:Int).toNat*2+1) (n:=(i:Int).toNat*2+1) d2 J (.tail _ (.tail _ (.head _))) q_e3 (ht J) J),
     aV⟩⟩⟩⟩⟩⟩⟩⟩⟩⟩⟩⟩⟩⟩ ?_
    refine du<|bG h fun st1 q_st1 h=>jM jT J (qZ qJ EN tN) J q_e3 (so q_st1) (ht J) (ht J)<|dR (eH (so q_st1)) 56 J<|dR (eH (so q_st1)) 59 J<|tq (O' :=[d9 df 78 ((sg 2).h 0).1 ((sg 2).h 0).2 st1,bx aj 72 b1 vG,bx gm 72 b (jJ n3 (aC ((sg 2).h 0).1 ((sg 2).h 0).2 st1.length) (aC ((sg 5).h 0).1 ((sg 5).h 0).2 n3.Items.length)),d9 bu 67 ((sg 5).h 0).1 ((sg 5).h 0).2 n3.Items]) (by rw [eH (so q_st1)])<|aQ<|an<|aq<|am<|zo rfl (jY (cG hx hN) rfl)<|aG rfl<|aQ<|bm<|bU<|bm<|bm ?_;exact bf (aT (ih (i+1) ({n3 with Aggs:=st1}:ai) ⟨cF hx,h⟩) (bn J))
  ·skip
   refine ay<|zo J (d3 2 ko J J J)<|zo J (aW bD J J fK (.head _) (ht J))<|zo J (dm (ht J) hI)<|aw<|db h J (fun h=>?_) (fun h=>?_)
   ·refine am<|zo J (d3 2 ko J J J)<|zo J (aW bD J J fK (.head _) (ht J))<|aG J<|zo J (jp (ht J) (ht J))<|zo J (d3 2 ko J J J)<|au bD J kd J (ht J) (ht J)<|aQ ?_;exact ce (K1 (ai.mk n1.Op n1.A (IntKind.i64.wrap (n1.B+by1)) n1.Table n1.Kinds n1.Left n1.Cond n1.Keys n1.Aggs n1.Items n1.Order n1.Limit) h) (bn J)
   ·refine bE ?_;exact ce (K1 n1 h) (bn J)
 ·skip
  refine ay<|zo J (d3 1 fM J J J)<|zo J (aW bD J J dn (.tail _ (.head _)) (ht J))<|zo J (dm (ht J) hI)<|aw<|db h J (fun h=>?_) (fun h=>?_)
  ·refine am<|zo J (d3 1 fM J J J)<|zo J (aW bD J J dn (.tail _ (.head _)) (ht J))<|aG J<|zo J (jp (ht J) (ht J))<|zo J (d3 1 fM J J J)<|bQ<|au bD J lu J (ht J) (ht J)<|aQ ?_;exact ce (K (ai.mk n.Op (IntKind.i64.wrap (n.A+by1)) n.B n.Table n.Kinds n.Left n.Cond n.Keys n.Aggs n.Items n.Order n.Limit) h) (bn J)
  ·refine bE<|bU ?_;exact ce (K n h) (bn J)

end Go.Proofs.YtnmjbolollcokaaGreatDoor

