/- cR of this claim: P2. -/
import Derived.Test.YtnmjbolollcokaaGreatDoorRcT
import Derived.Test.YtnmjbolollcokaaGreatDoorRcP1
set_option linter.all false
namespace Go.Proofs.YtnmjbolollcokaaGreatDoor
open Go
set_option maxRecDepth 100000

theorem Kk(e:aT)(kinds:(List Int)){R:Bool}(h:qj e kinds=some R):bA bc 207 [tD bz e,fP kinds] (gX R):=by
 refine bA.of Tryz.func207 J J J fun w0 S0=>aA<|zo J (l9 J)<|zo J (iO)<|ax<|aA<|zo J (bH iG J J)<|aJ J<|bT h fun r q_r h=>zo J (aL Oj (FJ _ _ q_r) ⟨(ht J),(ht J),aV⟩)<|aJ J<|zo J (mA J J)<|zo J (mA J J)<|bN J<|bN J<|ax<|aA<|aJ J<|zo J (mU J) ?_;refine aJ J<|cP J J (fun hg=>dw J)<|cP J J (fun hg=>cO (bB J hg) hI)<|cP J J (fun hg=>bJ (bB J hg))<|j5 J J J J (fun hg=>dw J)<|j5 J J J J (fun hg=>cO (bB J hg) hI)<|cP J J (fun hg=>wx (bB J hg) (fun hb=>(bB J (Dl hg (vN hb)))))<|zo J (r0 J J)<|bN J<|ax<|av ?_;cases so h;exact ba J J

theorem SF(b:Nat)(ix:OI)(c:aq)(n:M){R:(List Int)×Bool}(h:gk c n=some R):c9 bc 149 [tV (aE b 0),tD ai n] (dc b c ix) (fun _:OI=>tT [fP R.1,gX R.2]) (fun _=>(dc b c ix)):=by
 refine c9.of Tryz.func149 J J J fun w0 S0=>?_;refine(show CG _ _ _ [bx (rH aZ [(1,aD (ix.h 0).1 (ix.h 0).2 c.kinds.length),(2,aD (ix.h 1).1 (ix.h 1).2 c.first.length)]) 123 b c,cv fk 42 (ix.h 0).1 (ix.h 0).2 c.kinds,cv cn 3 (ix.h 1).1 (ix.h 1).2 c.first] _ from ?_);refine aA<|zo J (l9 J)<|zo J (aS (show aK _ _ _ o8 from lU))<|zo J (iO)<|ax<|af<|bT h fun e q_e h=>bT h fun e1 q_e1 h=>bT h fun r q_r h=>?_
 refine iq (ts:=[_,_,_,_,_,_,_,_,_,_,_,_,_,_,_,_,_,_,_]) mixed J J
  ⟨gK 0 J J J (dw J),
  ⟨dR 7 0 J J J (dD (ht J)),
  ⟨dR 8 1 J J J (fX 1 lX J J J),
  ⟨dR 9 2 J J J (dL u5 J (.head _) (.tail _ (.head _)) (ht J)),
  ⟨gK 3 J J J (cQ jv eo J J),
  ⟨dR 11 4 J J J (bH ce J J),
  ⟨gL 10 3 12 5 J J J J (aO rW cS J (ma (ht J)) (ht J) q_e),
  ⟨dR 13 6 J J J (bH cS J J),
  ⟨gK 0 J J J (dw J),
  ⟨dR 15 8 J J J (dD (ht J)),
  ⟨dR 16 9 J J J (fX 1 lX J J J),
  ⟨dR 17 10 J J J (dL u5 J (.head _) (.tail _ (.head _)) (ht J)),
  ⟨gK 3 J J J (cQ nz jt J J),
  ⟨dR 19 12 J J J (bH ce J J),
  ⟨gL 18 11 20 13 J J J J (aO rW cS J (ma (ht J)) (ht J) q_e1),
  ⟨dR 21 14 J J J (bH cS J J),
  ⟨gL 14 7 22 15 J J J J (aQ (r:=n8) (ys:=[e,e1]) (xs:=[.tmp 14,.tmp 22]) rW cS J J J J J ⟨(ht J),(ht J),aV⟩),
  ⟨dR 23 16 J J J (aL Ux (PN _ q_r) ⟨(ht J),aV⟩),
  ⟨dR 24 17 J J J (BQ J),
  aV⟩⟩⟩⟩⟩⟩⟩⟩⟩⟩⟩⟩⟩⟩⟩⟩⟩⟩⟩ ?_
 refine aw<|aA<|aJ rfl<|zo rfl (cQ uM nu rfl rfl)<|zo rfl (bH iG rfl rfl)<|aJ rfl<|bT h fun r1 q_r1 h=>zo J (aL QO (Kk _ _ q_r1) ⟨(ht J),(ht J),aV⟩)<|bN J<|bN J<|ax<|av<|au<|au<|au ?_;cases so h;exact jy (ts:=[fP r,gX r1]) (rvs:=[.tmp 4,.tmp 5]) J J ⟨dl J,dl J,aV⟩ o7 J J

theorem SD(b:Nat)(ix:OI)(c:aq)(n:M){R:(List Int)×Bool}(h:fg c n=some R):c9 bc 150 [tV (aE b 0),tD ai n] (dc b c ix) (fun _:OI=>tT [fP R.1,gX R.2]) (fun _=>(dc b c ix)):=by
 refine c9.of Tryz.func150 J J J fun w0 S0=>?_;refine(show CG _ _ _ [bx (rH aZ [(1,aD (ix.h 0).1 (ix.h 0).2 c.kinds.length),(2,aD (ix.h 1).1 (ix.h 1).2 c.first.length)]) 123 b c,cv fk 42 (ix.h 0).1 (ix.h 0).2 c.kinds,cv cn 3 (ix.h 1).1 (ix.h 1).2 c.first] _ from ?_);refine aA<|zo J (l9 J)<|zo J (aS (show aK _ _ _ o8 from lU))<|zo J (iO)<|ax<|af<|bT h fun e q_e h=>bT h fun r q_r h=>?_
 refine iq (ts:=[_,_,_,_,_,_,_,_,_,_,_,_,_,_,_,_,_,_,_,_,_]) mixed J J
  ⟨gK 0 J J J (dw J),
  ⟨dR 6 0 J J J (dD (ht J)),
  ⟨dR 7 1 J J J (fX 1 lX J J J),
  ⟨dR 8 2 J J J (dL u5 J (.head _) (.tail _ (.head _)) (ht J)),
  ⟨gK 3 J J J (cQ jv eo J J),
  ⟨dR 10 4 J J J (bH ce J J),
  ⟨gL 9 3 11 5 J J J J (aO rW cS J (ma (ht J)) (ht J) q_e),
  ⟨dR 12 6 J J J (bH cS J J),
  ⟨gK 3 J J J (cQ uM nu J J),
  ⟨dR 14 8 J J J (bH iG J J),
  ⟨gK 0 J J J (dw J),
  ⟨dR 16 10 J J J (dD (ht J)),
  ⟨dR 17 11 J J J (fX 1 lX J J J),
  ⟨dR 18 12 J J J (dL u5 J (.head _) (.tail _ (.head _)) (ht J)),
  ⟨gK 3 J J J (cQ jv eo J J),
  ⟨dR 20 14 J J J (bH ce J J),
  ⟨gL 19 13 21 15 J J J J (aO rW cS J (ma (ht J)) (ht J) q_e),
  ⟨dR 22 16 J J J (bH cS J J),
  ⟨gL 15 9 23 17 J J J J (aL QO (Kk _ _ q_r) ⟨(ht J),(ht J),aV⟩),
  ⟨dR 13 7 J J J (BQ J),
  ⟨dR 24 18 J J J (BQ J),
  aV⟩⟩⟩⟩⟩⟩⟩⟩⟩⟩⟩⟩⟩⟩⟩⟩⟩⟩⟩⟩⟩ ?_
 refine aw<|av<|au<|au<|au ?_;cases so h;exact jy (ts:=[fP e,gX r]) (rvs:=[.tmp 4,.tmp 5]) J J ⟨dl J,dl J,aV⟩ o7 J J

theorem PC(kinds:(List Int))(c:Int){R:Bool}(h:oE kinds c=some R):bA bc 238 [cm c,bw fk kinds] (gX R):=by
 refine bA.of Tryz.func238 J J J fun w0 S0=>aA<|zo J (iO)<|ax<|aA<|aJ J<|zo J (iA (ht J) hI)<|aJ J<|dQ J J (fun hg=>dw J)<|dQ J J (fun hg=>bH cS J J)<|dQ J J (fun hg=>cA d8 (bB J hg))<|dQ J J (fun hg=>fF (bB J hg) (bB J hg))<|zo J (ua J J)<|bN J<|ax<|av ?_;cases so h;exact ba J J

theorem PM(l:(List Int))(kinds:(List Int)){R:Bool}(h:qO l kinds=some R):bA bc 208 [fP l,fP kinds] (gX R):=by
 refine bA.of Tryz.func208 J J J fun w0 S0=>aA<|zo J (l9 J)<|zo J (iO)<|ax<|aA<|aJ J<|zo J ((show bW _ _ _ _ ((iH bc Mu n9 (fun(x:Int)=>(oE kinds) x)))from qg (cts:=[bw fk kinds]) (caps:=[.tmp 3]) Ul ⟨(ht J),aV⟩ (fun x y h=>PC _ _ h)))<|bT h fun r q_r h=>zo J (aL QS (Ko _ _ q_r) ⟨(ht J),(ht J),aV⟩)<|zo J (gj (ht J))<|bN J<|ax<|av ?_;cases so h;exact ba J J

theorem PL(a1:gF)(kinds:(List Int)){R:Int×Bool}(h:wB a1 kinds=some R):bA bc 209 [tD dW a1,fP kinds] (tT [cm R.1,gX R.2]):=by
 refine bA.of Tryz.func209 J J J fun w0 S0=>aA<|zo J (l9 J)<|zo J (gv)<|zo J (iO)<|ax<|af<|aA<|zo J (cQ FD y4 J J)<|zo J (bH ce J J)<|zo J (mU J)<|ax<|eE h J (fun h=>?_) (fun h=>?_)
 ·refine af ?_
  refine iq (ts:=[_,_,_,_,_,_,_]) mixed J J
   ⟨gK 2 J J J (cQ Cz vT J J),
   ⟨dR 11 0 J J J (cQ fW db J J),
   ⟨dR 12 1 J J J (bH mR J J),
   ⟨dR 13 2 J J J (lx l8 J),
   ⟨dR 14 3 J J J (mU J),
   ⟨S9 J J (gv),
   ⟨dR 15 4 J J J (BQ J),
   aV⟩⟩⟩⟩⟩⟩⟩ ?_
  refine aw<|av<|aa ?_;cases so h;exact df J J J
 ·refine fO<|aA<|zo J (cQ Cz vT J J)<|zo J (bH iG J J)<|aJ J<|bT h fun r q_r h=>zo J (aL Oj (FJ _ _ q_r) ⟨(ht J),(ht J),aV⟩)<|aJ J<|zo J (mA J J)<|zo J (mA J J)<|bN J<|bN J<|ax<|af<|aA<|zo J (cQ FD y4 J J)<|zo J (bH ce J J)<|ax<|aB ?_;refine aA<|zo J (mU J)<|bN J<|ax<|eE h J (fun h=>?_) (fun h=>?_)
  ·refine aA<|aJ J<|zo J (mU J)<|zo J (gv)<|bN J<|ax<|av ?_;refine aF (aa ?_);cases so h;exact df J J J
  ·refine aA<|zo J (mU J)<|bN J<|ax<|eE h J (fun h=>?_) (fun h=>?_)
   ·refine aA<|aJ J<|zo J (mU J)<|aJ J<|cP J J (fun hg=>dw J)<|cP J J (fun hg=>cO (bB J hg) hI)<|cP J J (fun hg=>bJ (bB J hg))<|j5 J J J J (fun hg=>dw J)<|j5 J J J J (fun hg=>cO (bB J hg) hI)<|cP J J (fun hg=>wx (bB J hg) (fun hb=>(bB J (Dl hg (vN hb)))))<|zo J (r0 J J)<|zo J (gv)<|bN J<|ax<|av ?_;refine aF (aa ?_);cases so h;exact df J J J
   ·refine jK (Z:=fun x=>qQ r x=some R) (Of:=fun x=>[]) (Gf:=fun x=>[(6,cm r.1),(7,cm r.2),(41,gX x)]) (fun x h=>?_) (fun K=>?_)
    ·skip
     refine eE h J (fun h=>?_) (fun h=>?_)
     ·refine aA<|aJ J<|aJ J<|zo J (mU J)<|bN J<|bN J<|ax<|av ?_;refine aF (aa ?_);cases so h;exact df J J J
     ·refine bO<|an<|aw<|aA<|zo rfl (gv)<|zo rfl (iO)<|ax<|av ?_;cases so h;exact df J J J
    ·skip
     refine aA<|zo J (mU J)<|bN J<|ax<|eE h J (fun h=>?_) (fun h=>?_)
     ·refine bO ?_;exact cE (K (a1.Tag==(4:Int)) h) (bu J)
     ·refine am<|zo J (mU J)<|bN J<|aR ?_;exact cE (K (a1.Tag==(5:Int)) h) (bu J)

theorem SC(b:Nat)(ix:OI)(c:aq)(n:M){R:(List Int)×Bool}(h:fT c n=some R):c9 bc 151 [tV (aE b 0),tD ai n] (dc b c ix) (fun _:OI=>tT [fP R.1,gX R.2]) (fun _=>(dc b c ix)):=by
 refine c9.of Tryz.func151 J J J fun w0 S0=>?_;refine(show CG _ _ _ [bx (rH aZ [(1,aD (ix.h 0).1 (ix.h 0).2 c.kinds.length),(2,aD (ix.h 1).1 (ix.h 1).2 c.first.length)]) 123 b c,cv fk 42 (ix.h 0).1 (ix.h 0).2 c.kinds,cv cn 3 (ix.h 1).1 (ix.h 1).2 c.first] _ from ?_);refine aA<|zo J (l9 J)<|zo J (aS (show aK _ _ _ o8 from lU))<|zo J (iO)<|ax<|af<|bT h fun e q_e h=>?_
 refine iq (ts:=[_,_,_,_,_,_,_,_,_]) mixed J J
  ⟨gK 0 J J J (dw J),
  ⟨dR 15 0 J J J (dD (ht J)),
  ⟨dR 16 1 J J J (fX 1 lX J J J),
  ⟨dR 17 2 J J J (dL u5 J (.head _) (.tail _ (.head _)) (ht J)),
  ⟨gK 3 J J J (cQ jv eo J J),
  ⟨dR 19 4 J J J (bH ce J J),
  ⟨gL 18 3 20 5 J J J J (aO rW cS J (ma (ht J)) (ht J) q_e),
  ⟨dR 21 6 J J J (bH cS J J),
  ⟨dR 22 7 J J J (BQ J),
  aV⟩⟩⟩⟩⟩⟩⟩⟩⟩ ?_
 refine aw<|aA<|zo rfl (cQ qy ko rfl rfl)<|zo rfl (bH cS rfl rfl)<|zo rfl (lx d8 rfl)<|zo rfl (lT (ht rfl) hI)<|aJ rfl<|cP rfl rfl (fun hg=>cQ mT li J J)<|cP J J (fun hg=>bD wQ J J (bB J hg))<|cP J J (fun hg=>cA rX (bB J hg))<|cP J J (fun hg=>lT (bB J hg) hI)<|zo J (r0 J J)<|aJ J<|cP J J (fun hg=>cQ qy ko J J)<|cP J J (fun hg=>bD cS J J (bB J hg))<|cP J J (fun hg=>cA d8 (bB J hg))<|cP J J (fun hg=>cQ mT li J J)<|cP J J (fun hg=>bD wQ J J (bB J hg))<|cP J J (fun hg=>cA rX (bB J hg))<|cP J J (fun hg=>pt (bB J hg) (bB J hg))<|cP J J (fun hg=>gU (bB J hg) hI)<|zo J (r0 J J)<|aJ J ?_;refine bT h fun t q_t h=>cP J J (fun hg=>cQ qy ko J J)<|cP J J (fun hg=>bD cS J J (bB J hg))<|cP J J (fun hg=>dw J) ?_
 obtain⟨r,h1t,h0t⟩:=og q_t
 have q_rg:=fun hb=>(h1t hb).1
 refine cP J J (fun hg=>aL Uw (PM _ _ (q_rg hg)) ⟨(bB J hg),(bB J hg),aV⟩)<|zo J (fe (ht J) (fun hb=>(bB J hb)) (fun hb=>(h1t hb).2) h0t)<|bN J<|ax<|af<|aA<|aJ J<|zo J (gj (ht J))<|ax<|eE h J (fun h=>?_) (fun h=>?_)
 ·refine aA<|zo J (aS (show aK _ _ _ o8 from lU))<|zo J (iO)<|ax<|av<|aa<|au<|au<|au ?_;cases so h;exact jy (ts:=[fP ([]),gX false]) (rvs:=[.tmp 4,.tmp 5]) J J ⟨dl J,dl J,aV⟩ o7 J J
 ·refine fO<|aA<|cj false cn 3<|zo J (aS u7)<|ax<|af<|aA<|zo J (cQ qy ko J J)<|zo J (bH cS J J)<|zo J (lx d8 J)<|zo J (bJ hI)<|ax<|aB<|bl (k:=52) J fun hN=>bU ?_;refine aW (oP (Z:=fun ls i out l c1=>(n.Keys.drop i=ls)∧fG n e t ls out=some R) (Of:=fun _ i out l c1=>[gu cn 3 l c1 out,bx (rH aZ [(1,aD (ix.h 0).1 (ix.h 0).2 c.kinds.length),(2,aD (ix.h 1).1 (ix.h 1).2 c.first.length)]) 123 b c,cv fk 42 (ix.h 0).1 (ix.h 0).2 c.kinds,cv cn 3 (ix.h 1).1 (ix.h 1).2 c.first]) (Gf:=fun _ i out l c1=>[(3,bw ai n),(6,fP e),(7,gX t),(8,rU l c1 out),(52,fP n.Keys),(53,jB n.Keys),(54,cm (i:Int))]) (fun i out l c1 h=>?_) (fun e1 tl ih i out l c1 h=>?_) n.Keys 0 ra none 0 ⟨J,h⟩) (bu J)
  ·obtain⟨hx,h⟩:=h
   refine aC<|aA<|zo J (gP J J)<|ax<|af<|bF (ht J) (d5 hx)<|bt ?_;refine ac (ac (aN ?_));refine aw<|af<|aA<|zo rfl (cQ mT li rfl rfl)<|zo rfl (bH wQ rfl rfl)<|zo rfl (lx rX rfl)<|zo rfl (bJ hI)<|ax<|aB<|bl (k:=67) J fun hN1=>bU ?_;refine aW (wh (Z:=fun ls1 i1 cx l1 c2 ok=>(n.Aggs.drop i1=ls1)∧ek e ls1 cx ok=some R) (Of:=fun _ i1 cx l1 c2 ok=>[gu cn 3 l1 c2 cx,bx (rH aZ [(1,aD (ix.h 0).1 (ix.h 0).2 c.kinds.length),(2,aD (ix.h 1).1 (ix.h 1).2 c.first.length)]) 123 b c,cv fk 42 (ix.h 0).1 (ix.h 0).2 c.kinds,cv cn 3 (ix.h 1).1 (ix.h 1).2 c.first]) (Gf:=fun _ i1 cx l1 c2 ok=>[(6,fP e),(7,gX ok),(8,rU l1 c2 cx),(67,fZ (dW) n.Aggs),(68,jB n.Aggs),(69,cm (i1:Int))]) (fun i1 cx l1 c2 ok h=>?_) (fun e2 tl1 ih1 i1 cx l1 c2 ok h=>?_) n.Aggs 0 out l c1 t ⟨J,h⟩) (bu J)
   ·obtain⟨hx1,h⟩:=h
    refine aC<|aA<|zo J (gP J J)<|ax<|af<|bF (ht J) (d5 hx1)<|bt ?_;refine ac (ac (aN ?_));refine aw<|aA<|aJ rfl<|aJ rfl<|bN rfl<|bN rfl<|ax<|av<|jL<|da 8 rfl<|da 88 rfl<|da 4 rfl<|kU 4 rfl<|bb<|au<|au<|au ?_;cases so h;exact jy (ts:=[fP cx,gX ok]) (rvs:=[.tmp 4,.tmp 5]) J J ⟨dl J,dl J,aV⟩ o7 J J
   ·obtain⟨hx1,h⟩:=h
    refine aC<|aA<|zo J (gP J J)<|ax<|af<|bE (ht J) (dZ hx1)<|fO<|af<|aB<|aA<|zo J (nY rX pZ J J J (d4 hx1))<|zo J (bH pZ J J)<|bh (r:=dW) (x:=ON) pZ (fun _=>zF _) J fun b1=>ap pZ J aj J (ht J) (ht J)<|bf 12 J<|ax<|aA<|zo J (bH pZ J J) ?_;refine aJ J<|bT h fun r1 q_r1 h=>zo J (aL Uv (PL _ _ q_r1) ⟨(ht J),(ht J),aV⟩)<|aJ J<|zo J (mA J J)<|zo J (mA J J)<|bN J<|bN J<|ax<|am<|aJ J<|aJ J<|zo J (aQ (r:=cn) (ys:=[r1.1]) (xs:=[.tmp 80]) d8 ce J J J J J ⟨(ht J),aV⟩)<|bT h fun s9 q_out2 h=>dJ ce J J J J d8 J J (ht J) (ht J) q_out2 fun l2 c3=>aJ J<|aJ J<|cP J J (fun hg=>dw J)<|zo J (r0 J J)<|bN J<|bN J<|aR<|an ?_;refine aw<|am<|zo rfl (nF (dv hx1 hN1) rfl)<|aJ rfl<|aR ?_;exact bj (aW (ih1 (i1+1) s9 l2 c3 (ok&&r1.2) ⟨du hx1,h⟩) (bu J))
  ·obtain⟨hx,h⟩:=h
   refine aC<|aA<|zo J (gP J J)<|ax<|af<|bE (ht J) (dZ hx)<|fO<|af<|aB<|aA<|zo J (nY d8 ce J J J (d4 hx))<|zo J (bH ce J J)<|bN J<|ax<|am<|aJ J<|aJ J<|aJ J<|bT h fun e3 q_e3 h=>?_;refine zo J (nY d8 ce J J J q_e3)<|zo J (bH ce J J)<|zo J (aQ (r:=cn) (ys:=[e3]) (xs:=[.tmp 62]) d8 ce J J J J J ⟨(ht J),aV⟩)<|bT h fun out3 q_out3 h=>dJ ce J J J J d8 J J (ht J) (ht J) q_out3 fun l3 c4=>bN J<|aR<|an<|aw<|am<|zo rfl (nF (dv hx hN) rfl)<|aJ rfl<|aR ?_;exact bj (aW (ih (i+1) out3 l3 c4 ⟨du hx,h⟩) (bu J))

theorem SB(b:Nat)(ix:OI)(c:aq)(n:M){R:(List Int)×Bool}(h:eM c n=some R):c9 bc 152 [tV (aE b 0),tD ai n] (dc b c ix) (fun _:OI=>tT [fP R.1,gX R.2]) (fun _=>(dc b c ix)):=by
 refine c9.of Tryz.func152 J J J fun w0 S0=>?_;refine(show CG _ _ _ [bx (rH aZ [(1,aD (ix.h 0).1 (ix.h 0).2 c.kinds.length),(2,aD (ix.h 1).1 (ix.h 1).2 c.first.length)]) 123 b c,cv fk 42 (ix.h 0).1 (ix.h 0).2 c.kinds,cv cn 3 (ix.h 1).1 (ix.h 1).2 c.first] _ from ?_);refine aA<|zo J (l9 J)<|zo J (aS (show aK _ _ _ o8 from lU))<|zo J (iO)<|ax<|aA<|zo J (cQ oI km J J)<|zo J (bH xq J J)<|zo J (lx rY J)<|zo J (fF (ht J) hI)<|aJ J<|cP J J (fun hg=>cQ oI km J J)<|cP J J (fun hg=>bD xq J J (bB J hg))<|cP J J (fun hg=>cA rY (bB J hg))<|cP J J (fun hg=>lT (bB J hg) hI)<|zo J (r0 J J)<|bN J<|ax<|aA ?_;refine cj false cn 3<|zo J (aS u7)<|ax<|af<|aA<|zo J (cQ oI km J J)<|zo J (bH xq J J)<|zo J (lx rY J)<|zo J (bJ hI)<|ax<|aB<|bl (k:=23) J fun hN=>bU ?_;refine aW (wh (Z:=fun ls i out l c1 ok=>(n.Items.drop i=ls)∧eG c n ls out ok=some R) (Of:=fun _ i out l c1 ok=>[gu cn 3 l c1 out,bx (rH aZ [(1,aD (ix.h 0).1 (ix.h 0).2 c.kinds.length),(2,aD (ix.h 1).1 (ix.h 1).2 c.first.length)]) 123 b c,cv fk 42 (ix.h 0).1 (ix.h 0).2 c.kinds,cv cn 3 (ix.h 1).1 (ix.h 1).2 c.first]) (Gf:=fun _ i out l c1 ok=>[(0,tV (aE b 0)),(3,bw ai n),(6,gX ok),(7,rU l c1 out),(23,fZ (bz) n.Items),(24,jB n.Items),(25,cm (i:Int))]) (fun i out l c1 ok h=>?_) (fun e tl ih i out l c1 ok h=>?_) n.Items 0 ra none 0 ((decide ((1:Int)≤(n.Items.length:Int)))&&(decide ((n.Items.length:Int)≤(16:Int)))) ⟨J,h⟩) (bu J)
 ·obtain⟨hx,h⟩:=h
  refine aC<|aA<|zo J (gP J J)<|ax<|af<|bF (ht J) (d5 hx)<|bt ?_;refine ac (ac (aN ?_));refine aw<|aA<|aJ rfl<|aJ rfl<|bN rfl<|bN rfl<|ax<|av<|jL<|da 7 rfl<|da 52 rfl<|da 4 rfl<|kU 4 rfl<|bb<|au<|au<|au ?_;cases so h;exact jy (ts:=[fP out,gX ok]) (rvs:=[.tmp 4,.tmp 5]) J J ⟨dl J,dl J,aV⟩ o7 J J
 ·obtain⟨hx,h⟩:=h
  refine aC<|aA<|zo J (gP J J)<|ax<|af<|bE (ht J) (dZ hx)<|fO<|af<|aB<|aA<|zo J (nY rY iG J J J (d4 hx))<|zo J (bH iG J J)<|bh (r:=bz) (x:=rb) iG (fun _=>qF _) J fun b1=>ap iG J aj J (ht J) (ht J)<|bf 9 J<|ax<|af<|bT h fun e1 q_e1 h=>bT h fun r q_r h=>?_
  refine iq (ts:=[_,_,_,_,_,_,_,_,_,_,_,_,_,_,_]) mixed J J
   ⟨gK 9 J J J (bH iG J J),
   ⟨gK 0 J J J (dw J),
   ⟨dR 31 1 J J J (dD (ht J)),
   ⟨dR 32 2 J J J (fX 1 lX J J J),
   ⟨dR 33 3 J J J (dL u5 J (.tail _ (.head _)) (.tail _ (.tail _ (.head _))) (ht J)),
   ⟨gK 3 J J J (cQ jv eo J J),
   ⟨dR 35 5 J J J (bH ce J J),
   ⟨gL 34 4 36 6 J J J J (aO rW cS J (ma (ht J)) (ht J) q_e1),
   ⟨dR 37 7 J J J (bH cS J J),
   ⟨gL 30 0 38 8 J J J J (aL Oj (FJ _ _ q_r) ⟨(ht J),(ht J),aV⟩),
   ⟨dR 39 9 J J J (dw J),
   ⟨dR 29 10 J J J (mA J J),
   ⟨dR 29 10 J J J (mA J J),
   ⟨dR 40 11 J J J (BQ J),
   ⟨dR 41 12 J J J (BQ J),
   aV⟩⟩⟩⟩⟩⟩⟩⟩⟩⟩⟩⟩⟩⟩⟩ ?_
  refine aw<|am<|aJ rfl<|aJ rfl<|zo rfl (aQ (r:=cn) (ys:=[r.1]) (xs:=[.tmp 43]) d8 ce J J J J J ⟨(ht J),aV⟩)<|bT h fun cx q_out1 h=>dJ ce J J J J d8 J J (ht J) (ht J) q_out1 fun l1 c2=>aJ J<|aJ J<|cP J J (fun hg=>dw J)<|cP J J (fun hg=>cO (bB J hg) hI)<|zo J (r0 J J)<|bN J<|bN J<|aR<|an<|aw<|am<|zo rfl (nF (dv hx hN) rfl)<|aJ rfl<|aR ?_;exact bj (aW (ih (i+1) cx l1 c2 (ok&&(r.2==(0:Int))) ⟨du hx,h⟩) (bu J))

theorem SA(b:Nat)(ix:OI)(c:aq)(n:M){R:(List Int)×Bool}(h:em c n=some R):c9 bc 153 [tV (aE b 0),tD ai n] (dc b c ix) (fun _:OI=>tT [fP R.1,gX R.2]) (fun _=>(dc b c ix)):=by
 refine c9.of Tryz.func153 J J J fun w0 S0=>?_;refine(show CG _ _ _ [bx (rH aZ [(1,aD (ix.h 0).1 (ix.h 0).2 c.kinds.length),(2,aD (ix.h 1).1 (ix.h 1).2 c.first.length)]) 123 b c,cv fk 42 (ix.h 0).1 (ix.h 0).2 c.kinds,cv cn 3 (ix.h 1).1 (ix.h 1).2 c.first] _ from ?_);refine aA<|zo J (l9 J)<|zo J (aS (show aK _ _ _ o8 from lU))<|zo J (iO)<|ax<|af<|bT h fun e q_e h=>?_
 refine iq (ts:=[_,_,_,_,_,_,_,_,_,_]) mixed J J
  ⟨gK 0 J J J (dw J),
  ⟨dR 6 0 J J J (dD (ht J)),
  ⟨dR 7 1 J J J (fX 1 lX J J J),
  ⟨dR 8 2 J J J (dL u5 J (.head _) (.tail _ (.head _)) (ht J)),
  ⟨gK 3 J J J (cQ jv eo J J),
  ⟨dR 10 4 J J J (bH ce J J),
  ⟨gL 9 3 11 5 J J J J (aO rW cS J (ma (ht J)) (ht J) q_e),
  ⟨dR 12 6 J J J (bH cS J J),
  ⟨dR 13 7 J J J (BQ J),
  ⟨S9 J J (iO),
  aV⟩⟩⟩⟩⟩⟩⟩⟩⟩⟩ ?_
 refine aw<|av<|au<|au<|au ?_;cases so h;exact jy (ts:=[fP e,gX true]) (rvs:=[.tmp 4,.tmp 5]) J J ⟨dl J,dl J,aV⟩ o7 J J

theorem Sz(b:Nat)(ix:OI)(c:aq)(n:M){R:(List Int)×Bool}(h:fR c n=some R):c9 bc 154 [tV (aE b 0),tD ai n] (dc b c ix) (fun _:OI=>tT [fP R.1,gX R.2]) (fun _=>(dc b c ix)):=by
 refine c9.of Tryz.func154 J J J fun w0 S0=>?_;refine(show CG _ _ _ [bx (rH aZ [(1,aD (ix.h 0).1 (ix.h 0).2 c.kinds.length),(2,aD (ix.h 1).1 (ix.h 1).2 c.first.length)]) 123 b c,cv fk 42 (ix.h 0).1 (ix.h 0).2 c.kinds,cv cn 3 (ix.h 1).1 (ix.h 1).2 c.first] _ from ?_);refine aA<|zo J (l9 J)<|zo J (aS (show aK _ _ _ o8 from lU))<|zo J (iO)<|ax<|af<|bT h fun e q_e h=>bT h fun e1 q_e1 h=>?_
 refine iq (ts:=[_,_,_,_,_,_,_,_,_,_,_,_,_,_,_,_,_,_]) mixed J J
  ⟨gK 0 J J J (dw J),
  ⟨dR 12 0 J J J (dD (ht J)),
  ⟨dR 13 1 J J J (fX 1 lX J J J),
  ⟨dR 14 2 J J J (dL u5 J (.head _) (.tail _ (.head _)) (ht J)),
  ⟨gK 3 J J J (cQ jv eo J J),
  ⟨dR 16 4 J J J (bH ce J J),
  ⟨gL 15 3 17 5 J J J J (aO rW cS J (ma (ht J)) (ht J) q_e),
  ⟨dR 18 6 J J J (bH cS J J),
  ⟨gK 0 J J J (dw J),
  ⟨dR 20 8 J J J (dD (ht J)),
  ⟨dR 21 9 J J J (fX 1 lX J J J),
  ⟨dR 22 10 J J J (dL u5 J (.head _) (.tail _ (.head _)) (ht J)),
  ⟨gK 3 J J J (cQ nz jt J J),
  ⟨dR 24 12 J J J (bH ce J J),
  ⟨gL 23 11 25 13 J J J J (aO rW cS J (ma (ht J)) (ht J) q_e1),
  ⟨dR 26 14 J J J (bH cS J J),
  ⟨dR 19 7 J J J (BQ J),
  ⟨dR 27 15 J J J (BQ J),
  aV⟩⟩⟩⟩⟩⟩⟩⟩⟩⟩⟩⟩⟩⟩⟩⟩⟩⟩ ?_
 refine aw<|af<|aA<|aJ rfl<|zo rfl (lx d8 rfl)<|aJ rfl<|zo rfl (lx d8 rfl)<|zo rfl (fE (ht rfl) (ht rfl))<|ax<|eE h rfl (fun h=>?_) (fun h=>?_)
 ·refine aA<|zo J (aS (show aK _ _ _ o8 from lU))<|zo J (iO)<|ax<|av<|aa<|au<|au<|au ?_;cases so h;exact jy (ts:=[fP ([]),gX false]) (rvs:=[.tmp 4,.tmp 5]) J J ⟨dl J,dl J,aV⟩ o7 J J
 ·refine fO<|aA<|aJ J<|bT h fun r q_r h=>lF HM (Bz _ q_r) ⟨(ht J),aV⟩ J fun l c1=>bN J<|ax<|aA<|zo J (iO)<|ax<|af<|aA<|aJ J<|zo J (lx d8 J)<|zo J (bJ hI)<|ax<|aB ?_;refine bl (k:=35) J fun hN=>bU ?_;refine aW (oQ (Z:=fun ls i out ok=>(e1.drop i=ls)∧de ls i out ok=some R) (Of:=fun _ i out ok=>[gu cn 3 l c1 out,bx (rH aZ [(1,aD (ix.h 0).1 (ix.h 0).2 c.kinds.length),(2,aD (ix.h 1).1 (ix.h 1).2 c.first.length)]) 123 b c,cv fk 42 (ix.h 0).1 (ix.h 0).2 c.kinds,cv cn 3 (ix.h 1).1 (ix.h 1).2 c.first]) (Gf:=fun _ i out ok=>[(8,rU l c1 out),(9,gX ok),(35,fP e1),(36,jB e1),(37,cm (i:Int))]) (fun i out ok h=>?_) (fun e2 tl ih i out ok h=>?_) e1 0 r true ⟨J,h⟩) (bu J)
  ·obtain⟨hx,h⟩:=h
   refine aC<|aA<|zo J (gP J J)<|ax<|af<|bF (ht J) (d5 hx)<|bt ?_;refine ac (ac (aN ?_));refine aw<|aA<|aJ rfl<|aJ rfl<|bN rfl<|bN rfl<|ax<|av<|jL<|da 8 rfl<|da 65 rfl<|da 4 rfl<|kU 4 rfl<|bb<|au<|au<|au ?_;cases so h;exact jy (ts:=[fP out,gX ok]) (rvs:=[.tmp 4,.tmp 5]) J J ⟨dl J,dl J,aV⟩ o7 J J
  ·obtain⟨hx,h⟩:=h
   refine aC<|aA<|zo J (gP J J)<|ax<|af<|bE (ht J) (dZ hx)<|fO<|af<|aB<|aA<|aJ J<|zo J (nY d8 ce J J J (d4 hx))<|zo J (bH ce J J)<|bN J<|bN J<|ax ?_;refine jK (Z:=fun cx=>gD (de tl) i e2 ok cx=some R) (Of:=fun cx=>[gu cn 3 l c1 cx,bx (rH aZ [(1,aD (ix.h 0).1 (ix.h 0).2 c.kinds.length),(2,aD (ix.h 1).1 (ix.h 1).2 c.first.length)]) 123 b c,cv fk 42 (ix.h 0).1 (ix.h 0).2 c.kinds,cv cn 3 (ix.h 1).1 (ix.h 1).2 c.first]) (Gf:=fun cx=>[(8,rU l c1 cx),(9,gX ok),(10,cm (i:Int)),(11,cm e2),(35,fP e1),(36,jB e1),(37,cm (i:Int))]) (fun cx h=>?_) (fun K=>?_)
   ·skip
    refine am<|aJ J<|aJ J<|bT h fun t q_t h=>cP J J (fun hg=>dw J)<|cP J J (fun hg=>dw J) ?_
    obtain⟨e3,h1t,h0t⟩:=og q_t
    have q_e3g:=fun hb=>(h1t hb).1
    refine cP J J (fun hg=>cF d8 ce (.head _) (bB J hg) (bB J hg) (q_e3g hg))<|cP J J (fun hg=>ge (r:=cn) (i:=(i:Int)) (foff:=0) ce J J bq J (.head _) (q_e3g hg) (bB J hg))<|cP J J (fun hg=>dw J)<|cP J J (fun hg=>cO (bB J hg) (bB J hg))<|cP J J (fun hg=>bJ (bB J hg))<|j5 J J J J (fun hg=>dw J)<|j5 J J J J (fun hg=>cO (bB J hg) hI)<|cP J J (fun hg=>wx (bB J hg) (fun hb=>(bB J (Dl hg (vN hb)))))<|zo J (fe (ht J) (fun hb=>(bB J hb)) (fun hb=>(h1t hb).2) h0t)<|bN J<|aR<|an<|aw<|am<|zo rfl (nF (dv hx hN) rfl)<|aJ rfl<|aR ?_;exact bj (aW (ih (i+1) cx t ⟨du hx,h⟩) (bu J))
   ·skip
    refine aA<|aJ J<|aJ J<|bT h fun e4 q_e4 h=>zo J (cF d8 ce (.head _) (ht J) (ht J) q_e4)<|zo J (ge (r:=cn) (i:=(i:Int)) (foff:=0) ce J J bq J (.head _) q_e4 (ht J))<|zo J (mU J)<|ax<|eE h J (fun h=>?_) (fun h=>?_)
    ·refine am<|aJ J<|aJ J<|aJ J<|zo J (cF d8 ce (.head _) (ht J) (ht J) q_e4)<|bT h fun st q_st h=>mL ce J aj J q_e4 (so q_st) (ht J) (ht J)<|fI (g9 (so q_st)) 8 J<|fI (g9 (so q_st)) 42 J<|fI (g9 (so q_st)) 47 J<|aR ?_;exact cE (K st h) (bu J)
    ·refine bO ?_;exact cE (K out h) (bu J)

theorem PK(in1:(List Int))(o:kT){R:Bool}(h:jz in1 o=some R):bA bc 211 [tD ke o,bw fk in1] (gX R):=by
 refine bA.of Tryz.func211 J J J fun w0 S0=>aA<|zo J (l9 J)<|zo J (iO)<|ax<|aA<|zo J (cQ Ki Hy J J)<|zo J (bH ce J J)<|zo J (iA (ht J) hI)<|aJ J<|dQ J J (fun hg=>cQ Ki Hy J J)<|dQ J J (fun hg=>bD ce J J (bB J hg))<|dQ J J (fun hg=>bH cS J J)<|dQ J J (fun hg=>cA d8 (bB J hg))<|dQ J J (fun hg=>fF (bB J hg) (bB J hg))<|zo J (ua J J)<|bN J<|ax<|av ?_;cases so h;exact ba J J

theorem Pz(s:(List kT))(f:(kT→Option Bool)){R:Int}(h:gA s f=some R):bA bc 242 [fZ (ke) s,(iH bc Mv n9 (fun(x:kT)=>f x))] (cm R):=by
 refine bA.of Tryz.func242 J J J fun w0 S0=>aA<|zo J (gv)<|ax<|af<|aA<|aJ J<|zo J (lx yl J)<|zo J (bJ hI)<|ax<|aB<|bl (k:=6) J fun hN=>bU ?_;refine aW (fM (Z:=fun ls i=>(s.drop i=ls)∧dh f ls i=some R) (Of:=fun _ i=>[]) (Gf:=fun _ i=>[(0,fZ (ke) s),(1,(iH bc Mv n9 (fun(x:kT)=>f x))),(7,jB s),(8,cm (i:Int))]) (fun i h=>?_) (fun e tl ih i h=>?_) s 0 ⟨J,h⟩) (bu J)
 ·obtain⟨hx,h⟩:=h
  refine aC<|aA<|zo J (gP J J)<|ax<|af<|bF (ht J) (d5 hx)<|bt ?_;refine ac (ac (aN ?_));refine aw<|aA<|zo rfl (gv)<|ax<|av ?_;cases so h;exact ba J J
 ·obtain⟨hx,h⟩:=h
  refine aC<|aA<|zo J (gP J J)<|ax<|af<|bE (ht J) (dZ hx)<|fO<|af<|aB<|aA<|aJ J<|bN J<|ax<|aA<|aJ J<|aJ J<|aJ J<|zo J (nY yl JT J J J (d4 hx)) ?_;refine zo J (bH JT J J)<|bT h fun r q_r h=>zo J (jV (args:=Mv) (res:=If) (f:=(fun(x:kT)=>f x)) (x:=((e):kT)) (ht J) q_r ⟨(ht J),aV⟩)<|ax<|eE h J (fun h=>?_) (fun h=>?_)
  ·refine aA<|aJ J<|bN J<|ax<|av ?_;refine aF (aa (aa (aF (aa ?_))));cases so h;exact ba J J
  ·refine bO<|an<|aw<|am<|zo rfl (nF (dv hx hN) rfl)<|aJ rfl<|aR ?_;exact bj (aW (ih (i+1) ⟨du hx,h⟩) (bu J))

end Go.Proofs.YtnmjbolollcokaaGreatDoor

