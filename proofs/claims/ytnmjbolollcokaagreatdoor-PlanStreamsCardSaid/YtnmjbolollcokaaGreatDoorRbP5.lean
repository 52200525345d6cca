/- cJ of this claim: P5. -/
import Derived.Test.YtnmjbolollcokaaGreatDoorRbT
import Derived.Test.YtnmjbolollcokaaGreatDoorRbP4
set_option linter.all false
namespace Go.Proofs.YtnmjbolollcokaaGreatDoor
open Go
set_option maxRecDepth 100000

theorem I7(t:cc){R:Bool}(h:mb t=some R):bn ba 58 [tD cW t] (eH R):=by
 refine bn.of Tryz.func58 J J J fun w0 S0=>ay<|zo J (gY J)<|zo J (eZ)<|aw<|ay<|zo J (bz rz J J)<|bI h fun r q_r h=>zo J (aK MJ (I6 _ q_r) ⟨(ht J),aT⟩)<|zo J (yr J)<|bC J<|aw<|aq ?_;cases so h;exact aW J J

theorem CX(s:(List cc))(f:(cc→Option Bool)){R:Int}(h:dT s f=some R):bn ba 100 [dH (cW) s,(eN ba si jX (fun(x:cc)=>f x))] (bD R):=by
 refine bn.of Tryz.func100 J J J fun w0 S0=>ay<|zo J (d9)<|aw<|af<|ay<|aH J<|zo J (gV ym J)<|zo J (bA hI)<|aw<|ax<|bf (k:=6) J fun hN=>bF ?_;refine aS (dS (Z:=fun ls i=>(s.drop i=ls)∧dx f ls i=some R) (Of:=fun _ i=>[]) (Gf:=fun _ i=>[(0,dH (cW) s),(1,(eN ba si jX (fun(x:cc)=>f x))),(7,fD s),(8,bD (i:Int))]) (fun i h=>?_) (fun e tl ih i h=>?_) s 0 ⟨J,h⟩) (bl J)
 ·obtain⟨hx,h⟩:=h
  refine aA<|ay<|zo J (ej J J)<|aw<|af<|bu (ht J) (c8 hx)<|bk ?_;refine ac (ac (aM ?_));refine av<|ay<|zo rfl (d9)<|aw<|aq ?_;cases so h;exact aW J J
 ·obtain⟨hx,h⟩:=h
  refine aA<|ay<|zo J (ej J J)<|aw<|af<|bt (ht J) (cY hx)<|dJ<|af<|ax<|ay<|aH J<|bC J<|aw<|ay<|aH J<|aH J<|aH J<|zo J (km ym rz J J J (c0 hx)) ?_;refine zo J (bz rz J J)<|bI h fun r q_r h=>zo J (gc (args:=si) (res:=Bn) (f:=(fun(x:cc)=>f x)) (x:=((e):cc)) (ht J) q_r ⟨(ht J),aT⟩)<|aw<|dn h J (fun h=>?_) (fun h=>?_)
  ·refine ay<|aH J<|bC J<|aw<|aq ?_;refine aD (M (M (aD (M ?_))));cases so h;exact aW J J
  ·refine bE<|an<|av<|am<|zo rfl (jQ (cI hx hN) rfl)<|aH rfl<|aQ ?_;exact be (aS (ih (i+1) ⟨cH hx,h⟩) (bl J))

theorem I5(s:(List cc))(f:(cc→Option Bool)){R:Bool}(h:eB s f=some R):bn ba 60 [dH (cW) s,(eN ba si jX (fun(x:cc)=>f x))] (eH R):=by
 refine bn.of Tryz.func60 J J J fun w0 S0=>ay<|zo J (eZ)<|aw<|ay<|aH J<|aH J<|bI h fun r q_r h=>zo J (aK HU (CX _ _ q_r) ⟨(ht J),(ht J),aT⟩)<|zo J (dN (ht J) hI)<|bC J<|aw<|aq ?_;cases so h;exact aW J J

theorem Hb(of:(cc→Option jn))(name:jn)(p:cc){R:Bool}(h:gy of name p=some R):bn ba 177 [tD cW p,bj (rT ((eN ba si qX (fun(x:cc)=>of x)))) (),bj rS name] (eH R):=by
 refine bn.of Tryz.func177 J J J fun w0 S0=>ay<|zo J (gY J)<|zo J (eZ)<|aw<|af<|bI h fun r q_r h=>?_
 refine eR (ts:=[_,_,_,_,_,_]) mixed J J
  ⟨ek 1 J J J (sx Kb (ht J)),
  ⟨ek 3 J J J (bz rz J J),
  ⟨eo 5 0 6 1 J J J J (gc (args:=si) (res:=qX) (f:=(fun(x:cc)=>of x)) (x:=((p):cc)) (ht J) q_r ⟨(ht J),aT⟩),
  ⟨ek 2 J J J (bz Dp J J),
  ⟨eo 7 2 8 3 J J J J (vf (ht J) (ht J)),
  ⟨c9 9 4 J J J (vB J),
  aT⟩⟩⟩⟩⟩⟩ ?_
 refine av<|aq ?_;cases so h;exact aW J J

theorem Ho(l:(List cc))(of:(cc→Option jn))(name:jn){R:Int×Bool}(h:kO l of name=some R):bn ba 101 [dH (cW) l,(eN ba si qX (fun(x:cc)=>of x)),tD rS name] (tT [bD R.1,eH R.2]):=by
 refine bn.of Tryz.func101 J J J fun w0 S0=>ay<|zo J (yW (ht J))<|zo J (gY J)<|zo J (d9)<|zo J (eZ)<|aw<|ay<|aH J<|zo J ((show bH _ _ _ _ ((eN ba si jX (fun(x:cc)=>(gy of name) x)))from jd (cts:=[bj (rT ((eN ba si qX (fun(x:cc)=>of x)))) (),bj rS name]) (caps:=[.tmp 4,.tmp 5]) Lk ⟨(ht J),(ht J),aT⟩ (fun x y h=>Hb _ _ _ h)))<|bI h fun r q_r h=>zo J (aK HU (CX _ _ q_r) ⟨(ht J),(ht J),aT⟩)<|bC J<|aw<|ay<|aH J<|zo J (ve (ht J) hI)<|aH J<|zo J (dN (ht J) hI) ?_;refine bC J<|bC J<|aw<|aq ?_;cases so h;exact cv J J J

theorem I4(l:(List cc))(of:(cc→Option jn)){R:Bool}(h:kN l of=some R):bn ba 61 [dH (cW) l,(eN ba si qX (fun(x:cc)=>of x))] (eH R):=by
 refine bn.of Tryz.func61 J J J fun w0 S0=>ay<|zo J (eZ)<|aw<|af<|ay<|aH J<|zo J (gV ym J)<|zo J (bA hI)<|aw<|ax<|bf (k:=9) J fun hN=>bF ?_;refine aS (dS (Z:=fun ls i=>(l.drop i=ls)∧fS l of ls i=some R) (Of:=fun _ i=>[]) (Gf:=fun _ i=>[(0,dH (cW) l),(1,(eN ba si qX (fun(x:cc)=>of x))),(9,dH (cW) l),(10,fD l),(11,bD (i:Int))]) (fun i h=>?_) (fun e tl ih i h=>?_) l 0 ⟨J,h⟩) (bl J)
 ·obtain⟨hx,h⟩:=h
  refine aA<|ay<|zo J (ej J J)<|aw<|af<|bu (ht J) (c8 hx)<|bk ?_;refine ac (ac (aM ?_));refine av<|ay<|zo rfl (eZ)<|aw<|aq ?_;cases so h;exact aW J J
 ·obtain⟨hx,h⟩:=h
  refine aA<|ay<|zo J (ej J J)<|aw<|af<|bt (ht J) (cY hx)<|dJ<|af<|ax<|ay<|aH J<|zo J (km ym rz J J J (c0 hx))<|zo J (bz rz J J)<|bg (r:=cW) (x:=(⟨[],[],[]⟩:cc)) rz (fun _=>vy _) J fun b=>bC J<|ap rz J aj J (ht J) (ht J)<|bc 6 J<|aw<|af ?_;refine am<|aH J<|aH J<|aH J<|zo J (bz rz J J)<|bI h fun r q_r h=>zo J (gc (args:=si) (res:=qX) (f:=(fun(x:cc)=>of x)) (x:=((e):cc)) (ht J) q_r ⟨(ht J),aT⟩)<|bI h fun r1 q_r1 h=>zo J (aK LN (Ho _ _ _ q_r1) ⟨(ht J),(ht J),(ht J),aT⟩)<|aH J<|zo J (iU J J)<|zo J (iU J J)<|bC J<|bC J<|aw<|ay<|aH J<|aH J<|zo J (dq (ht J) (ht J))<|aH J<|bI h fun t q_t h=>cZ J J (fun hg=>cL J) ?_;refine cZ J J (fun hg=>bz rz J J) ?_
  obtain⟨r2,h1t,h0t⟩:=og q_t
  have q_r2g:=fun hb=>(h1t hb).1
  refine cZ J J (fun hg=>gc (args:=si) (res:=qX) (f:=(fun(x:cc)=>of x)) (x:=((e):cc)) (bq J hg) (q_r2g hg) ⟨(bq J hg),aT⟩) ?_
  obtain⟨r3,h1t⟩:=JP (fun hb=>(h1t hb).2)
  have q_r3g:=fun hb=>(h1t hb).1
  refine cZ J J (fun hg=>aK JD (B4 _ (q_r3g hg)) ⟨(bq J hg),aT⟩)<|cZ J J (fun hg=>d8 (bq J hg))<|zo J (ez (ht J) (fun hb=>(bq J (pG hb))) (fun hb=>(h1t hb).2) h0t)<|aw<|dn h J (fun h=>?_) (fun h=>?_)
  ·refine ay<|zo J (eZ)<|aw<|aq ?_;refine aD (M (M (aD (M ?_))));cases so h;exact aW J J
  ·refine bE<|an<|av<|am<|zo rfl (jQ (cI hx hN) rfl)<|aH rfl<|aQ ?_;exact be (aS (ih (i+1) ⟨cH hx,h⟩) (bl J))

theorem I3(t:cc){R:jn}(h:nJ t=some R):bn ba 62 [tD cW t] (tD rS R):=by
 refine bn.of Tryz.func62 J J J fun w0 S0=>ay<|zo J (gY J)<|zo J (aP hS)<|aw<|ay<|zo J (cr Fk wg J J)<|zo J (bz Dp J J)<|bC J<|aw<|aq ?_;cases so h;exact aW J J

theorem Jf(c:ff){R:Int}(h:rp c=some R):bn ba 32 [tD dU c] (bD R):=by
 refine bn.of Tryz.func32 J J J fun w0 S0=>ay<|zo J (gY J)<|zo J (d9)<|aw<|ay<|zo J (aP (show aG _ _ _ ((eN ba si jX (fun(x:cc)=>mb x)))from(IK MK fun x y h=>I7 _ h)))<|aw<|af<|ay<|zo J (cr tP jz J J)<|zo J (bz Dr J J)<|zo J (gV ym J)<|zo J (eX (ht J) hI)<|aH J<|bI h fun t q_t h=>cZ J J (fun hg=>cr tP jz J J)<|cZ J J (fun hg=>bp Dr J J (bq J hg))<|cZ J J (fun hg=>cL J) ?_
 obtain⟨r,h1t,h0t⟩:=og q_t
 have q_rg:=fun hb=>(h1t hb).1
 refine cZ J J (fun hg=>aK MI (I5 _ _ (q_rg hg)) ⟨(bq J hg),(bq J hg),aT⟩)<|zo J (ez (ht J) (fun hb=>(bq J (pG hb))) (fun hb=>(h1t hb).2) h0t)<|aH J<|bI h fun t1 q_t1 h=>cZ J J (fun hg=>cr tP jz J J)<|cZ J J (fun hg=>bp Dr J J (bq J hg)) ?_
 obtain⟨r1,h1t1,h0t1⟩:=og q_t1
 have q_r1g:=fun hb=>(h1t1 hb).1
 refine cZ J J (fun hg=>aK MH (I4 _ _ (q_r1g hg)) ⟨(bq J hg),(IK MG fun x y h=>I3 _ h),aT⟩)<|cZ J J (fun hg=>d8 (bq J hg))<|zo J (ez (ht J) (fun hb=>(bq J (pG hb))) (fun hb=>(h1t1 hb).2) h0t1)<|aw<|dn h J (fun h=>?_) (fun h=>?_)
 ·refine ay<|zo J (d9)<|aw<|aq<|M ?_;cases so h;exact aW J J
 ·refine dJ<|ay<|zo J (d9)<|aw<|aq ?_;cases so h;exact aW J J

theorem B5(s1:(List Int))(s2:(List Int)){R:Bool}(h:f7 s1 s2=some R):bn ba 63 [dX s1,dX s2] (eH R):=by
 refine bn.of Tryz.func63 J J J fun w0 S0=>ay<|zo J (eZ)<|aw<|af<|ay<|aH J<|zo J (gV dm J)<|aH J<|zo J (gV dm J)<|zo J (dq (ht J) (ht J))<|aw<|dn h J (fun h=>?_) (fun h=>?_)
 ·refine ay<|zo J (eZ)<|aw<|aq<|M ?_;cases so h;exact aW J J
 ·refine dJ<|af<|ay<|aH J<|zo J (gV dm J)<|zo J (bA hI)<|aw<|ax<|bf (k:=11) J fun hN=>bF ?_;refine aS (dS (Z:=fun ls i=>(s1.drop i=ls)∧gK s2 ls i=some R) (Of:=fun _ i=>[]) (Gf:=fun _ i=>[(0,dX s1),(1,dX s2),(12,fD s1),(13,bD (i:Int))]) (fun i h=>?_) (fun e tl ih i h=>?_) s1 0 ⟨J,h⟩) (bl J)
  ·obtain⟨hx,h⟩:=h
   refine aA<|ay<|zo J (ej J J)<|aw<|af<|bu (ht J) (c8 hx)<|bk ?_;refine ac (ac (aM ?_));refine av<|ay<|zo rfl (eZ)<|aw<|aq ?_;cases so h;exact aW J J
  ·obtain⟨hx,h⟩:=h
   refine aA<|ay<|zo J (ej J J)<|aw<|af<|bt (ht J) (cY hx)<|dJ<|af<|ax<|ay<|aH J<|bC J<|aw<|af<|bI h fun e1 q_e1 h=>?_
   refine eR (ts:=[_,_,_,_,_,_,_,_,_]) mixed J J
    ⟨ek 0 J J J (cL J),
    ⟨ek 5 J J J (cL J),
    ⟨eo 16 0 17 1 J J J J (km dm bK J J J (c0 hx)),
    ⟨c9 18 2 J J J (bz bK J J),
    ⟨ek 1 J J J (cL J),
    ⟨ek 5 J J J (cL J),
    ⟨eo 20 4 21 5 J J J J (km dm bK J J J q_e1),
    ⟨c9 22 6 J J J (bz bK J J),
    ⟨eo 19 3 23 7 J J J J (dq (ht J) (ht J)),
    aT⟩⟩⟩⟩⟩⟩⟩⟩⟩ ?_
   refine av<|dn h rfl (fun h=>?_) (fun h=>?_)
   ·refine ay<|zo J (eZ)<|aw<|aq ?_;refine aD (M (M (aD (M ?_))));cases so h;exact aW J J
   ·refine bE<|an<|av<|am<|zo rfl (jQ (cI hx hN) rfl)<|aH rfl<|aQ ?_;exact be (aS (ih (i+1) ⟨cH hx,h⟩) (bl J))

theorem Je(l:cF)(c:ff){R:Bool}(h:vW l c=some R):bn ba 33 [tD cq l,tD dU c] (eH R):=by
 refine bn.of Tryz.func33 J J J fun w0 S0=>ay<|zo J (gY J)<|zo J (gY J)<|zo J (eZ)<|aw<|af<|ay<|zo J (cr l8 gv J J)<|zo J (bz k5 J J)<|zo J (gV iq J)<|zo J (bA hI)<|aw<|ax<|bf (k:=11) J fun hN=>bF ?_;refine aS (dS (Z:=fun ls i=>(l.Nodes.drop i=ls)∧iz c ls=some R) (Of:=fun _ i=>[]) (Gf:=fun _ i=>[(3,bj dU c),(11,dH (ak) l.Nodes),(12,fD l.Nodes),(13,bD (i:Int))]) (fun i h=>?_) (fun e tl ih i h=>?_) l.Nodes 0 ⟨J,h⟩) (bl J)
 ·obtain⟨hx,h⟩:=h
  refine aA<|ay<|zo J (ej J J)<|aw<|af<|bu (ht J) (c8 hx)<|bk ?_;refine ac (ac (aM ?_));refine av<|ay<|zo rfl (eZ)<|aw<|aq ?_;cases so h;exact aW J J
 ·obtain⟨hx,h⟩:=h
  refine aA<|ay<|zo J (ej J J)<|aw<|af<|bt (ht J) (cY hx)<|dJ<|af ?_;refine yg (Z:=nS (iz c tl)=some R) (Of:=[]) (Gf:=[(3,bj dU c),(11,dH (ak) l.Nodes),(12,fD l.Nodes),(13,bD (i:Int))]) (fun h=>?_) (fun K=>?_)
  ·skip
   refine av<|am<|zo rfl (jQ (cI hx hN) rfl)<|aH rfl<|aQ ?_;exact be (aS (ih (i+1) ⟨cH hx,h⟩) (bl J))
  ·skip
   refine ay<|zo J (km iq cE J J J (c0 hx))<|zo J (bz cE J J)<|bg (r:=ak) (x:=vz) cE (fun _=>gG _) J fun b=>ap cE J aj J (ht J) (ht J)<|bc 6 J<|aw<|af<|ay<|zo J (cr qr j8 J J)<|zo J (bz bK J J)<|zo J (yr J)<|aw<|dn h J (fun h=>?_) (fun h=>?_)
   ·refine bk ?_;refine ac (aM ?_);exact cd (K h) (bl J)
   ·refine dJ<|af<|ay<|zo J (cr qq j7 J J)<|zo J (bz bK J J)<|zo J (cr tP jz J J)<|zo J (bz Dr J J)<|zo J (gV ym J)<|zo J (dN (ht J) (ht J))<|aw<|dn h J (fun h=>?_) (fun h=>?_)
    ·refine ay<|zo J (eZ)<|aw<|aq ?_;refine M (aD (M (M (aD (M ?_)))));cases so h;exact aW J J
    ·refine dJ<|ay<|bQ false bM 3<|zo J (aP pI)<|aw<|af<|ay<|zo J (cr tP jz J J)<|zo J (bz Dr J J)<|zo J (cr qq j7 J J)<|zo J (bz bK J J)<|bI h fun e1 q_e1 h=>zo J (km ym rz J J J q_e1)<|zo J (cr tN lj J J)<|zo J (bz Dq J J)<|zo J (gV tg J)<|zo J (bA hI)<|aw<|ax ?_;refine bf (k:=32) J fun hN1=>bF ?_;refine aS (kQ (Z:=fun ls1 i1 kinds l1 c1=>(e1.Columns.drop i1=ls1)∧nR (iz c tl) e ls1 kinds=some R) (Of:=fun _ i1 kinds l1 c1=>[ee bM 3 l1 c1 kinds]) (Gf:=fun _ i1 kinds l1 c1=>[(3,bj dU c),(6,bj ak e),(7,nb l1 c1 kinds),(11,dH (ak) l.Nodes),(12,fD l.Nodes),(13,bD (i:Int)),(32,dH (cR) e1.Columns),(33,fD e1.Columns),(34,bD (i1:Int))]) (fun i1 kinds l1 c1 h=>?_) (fun e2 tl1 ih1 i1 kinds l1 c1 h=>?_) e1.Columns 0 my none 0 ⟨J,h⟩) (bl J)
     ·obtain⟨hx1,h⟩:=h
      refine aA<|ay<|zo J (ej J J)<|aw<|af<|bu (ht J) (c8 hx1)<|bk ?_;refine ac (ac (aM ?_));refine av<|ay<|aH rfl<|zo rfl (cr n6 ji rfl rfl)<|zo rfl (bz cu rfl rfl)<|ms<|qA 7 rfl<|qA 44 rfl<|bI h fun r q_r h=>zo J (aK JF (B5 _ _ q_r) ⟨(iW (ht J)),(ht J),aT⟩)<|zo J (d8 (ht J))<|aw<|dn h J (fun h=>?_) (fun h=>?_)
      ·refine ay<|zo J (eZ)<|aw<|aq ?_;refine aD (M (M (aD (M ?_))));refine aU ?_;cases so h;exact aW J J
      ·refine bE<|an<|aU ?_;exact cd (K h) (bl J)
     ·obtain⟨hx1,h⟩:=h
      refine aA<|ay<|zo J (ej J J)<|aw<|af<|bt (ht J) (cY hx1)<|dJ<|af<|ax<|ay<|zo J (km tg nh J J J (c0 hx1))<|zo J (bz nh J J)<|bg (r:=cR) (x:=H1) nh (fun _=>mp _) J fun b1=>ap nh J aj J (ht J) (ht J)<|bc 9 J<|aw<|am<|aH J<|zo J (cr Fj uz J J) ?_;refine zo J (bz bK J J)<|zo J (aR (r:=bM) (ys:=[e2.Kind]) (xs:=[.tmp 40]) dm bK J J J J J ⟨(ht J),aT⟩)<|bI h fun kinds1 q_kinds1 h=>cT bK J J J J dm J J (ht J) (ht J) q_kinds1 fun l2 c2=>bC J<|aQ<|an<|av<|am<|zo rfl (jQ (cI hx1 hN1) rfl)<|aH rfl<|aQ ?_;exact be (aS (ih1 (i1+1) kinds1 l2 c2 ⟨cH hx1,h⟩) (bl J))

theorem FE(s:(List jD)){R:(List jD)}(h:d6 s=some R):fx ba 102 [dH (gp) s] false gp 173 R:=by
 refine fx.of Tryz.func102 J J J fun w0 S0=>ay<|bQ false gp 173<|zo J (aP pI)<|aw<|af<|ay<|aH J<|ox yl (ht J) J fun isnil hisnil=>aw<|kT (ht J) (fun hc=>?_) (fun hc=>?_)
 ·have hx:=hisnil hc
  have h:some ([]:List jD)=some R:=by simpa [d6,kr,hx] using h
  refine ay<|bQ false gp 173<|zo J (aP pI)<|aw<|aq<|M ?_;cases so h;exact eS J J
 ·refine dJ<|ay<|gX (r:=gp) (ys:=([]:List jD)) (xs:=[]) yl Cx J J J J J trivial J fun l c=>aH J<|bI h fun x q_x h=>cT Cx J J J J yl J J (ht J) (ht J) q_x fun l1 c1=>bC J<|aw<|aq ?_;cases so h;exact eS J J
theorem Hn(s:(List jD)){R:(List jD)}(h:d6 s=some R):bn ba 102 [dH (gp) s] (dH (gp) R):=(FE _ h).spec

theorem wn(s:(List bT)){R:(List bT)}(h:cg s=some R):fx ba 103 [dH (aY) s] false aY 130 R:=by
 refine fx.of Tryz.func103 J J J fun w0 S0=>ay<|bQ false aY 130<|zo J (aP pI)<|aw<|af<|ay<|aH J<|ox iT (ht J) J fun isnil hisnil=>aw<|kT (ht J) (fun hc=>?_) (fun hc=>?_)
 ·have hx:=hisnil hc
  have h:some ([]:List bT)=some R:=by simpa [cg,kr,hx] using h
  refine ay<|bQ false aY 130<|zo J (aP pI)<|aw<|aq<|M ?_;cases so h;exact eS J J
 ·refine dJ<|ay<|gX (r:=aY) (ys:=([]:List bT)) (xs:=[]) iT da J J J J J trivial J fun l c=>aH J<|bI h fun x q_x h=>cT da J J J J iT J J (ht J) (ht J) q_x fun l1 c1=>bC J<|aw<|aq ?_;cases so h;exact eS J J
theorem CW(s:(List bT)){R:(List bT)}(h:cg s=some R):bn ba 103 [dH (aY) s] (dH (aY) R):=(wn _ h).spec

theorem FD(s:(List ko)){R:(List ko)}(h:eU s=some R):fx ba 104 [dH (dc) s] false dc 78 R:=by
 refine fx.of Tryz.func104 J J J fun w0 S0=>ay<|bQ false dc 78<|zo J (aP pI)<|aw<|af<|ay<|aH J<|ox nf (ht J) J fun isnil hisnil=>aw<|kT (ht J) (fun hc=>?_) (fun hc=>?_)
 ·have hx:=hisnil hc
  have h:some EB=some R:=by simpa [eU,kr,hx] using h
  refine ay<|bQ false dc 78<|zo J (aP pI)<|aw<|aq<|M ?_;cases so h;exact eS J J
 ·refine dJ<|ay<|gX (r:=dc) (ys:=EB) (xs:=[]) nf lC J J J J J trivial J fun l c=>aH J<|bI h fun x q_x h=>cT lC J J J J nf J J (ht J) (ht J) q_x fun l1 c1=>bC J<|aw<|aq ?_;cases so h;exact eS J J
theorem FB(s:(List bw)){R:(List bw)}(h:eu s=some R):fx ba 105 [dH (br) s] false br 67 R:=by
 refine fx.of Tryz.func105 J J J fun w0 S0=>ay<|bQ false br 67<|zo J (aP pI)<|aw<|af<|ay<|aH J<|ox nc (ht J) J fun isnil hisnil=>aw<|kT (ht J) (fun hc=>?_) (fun hc=>?_)
 ·have hx:=hisnil hc
  have h:some ([]:List bw)=some R:=by simpa [eu,kr,hx] using h
  refine ay<|bQ false br 67<|zo J (aP pI)<|aw<|aq<|M ?_;cases so h;exact eS J J
 ·refine dJ<|ay<|gX (r:=br) (ys:=([]:List bw)) (xs:=[]) nc fa J J J J J trivial J fun l c=>aH J<|bI h fun x q_x h=>cT fa J J J J nc J J (ht J) (ht J) q_x fun l1 c1=>bC J<|aw<|aq ?_;cases so h;exact eS J J
theorem I2(n:ai)(by1:Int){R:ai}(h:sB n by1=some R):bn ba 64 [tD ak n,bD by1] (tD ak R):=by
 refine bn.of Tryz.func64 J J J fun w0 S0=>ay<|nL (ht J) J fun b=>bg (r:=ak) (x:=vz) cE (fun _=>gG _) J fun b1=>aw ?_;refine fX (Z:=fun n1=>lY by1 n1=some R) (Of:=fun n1=>[bx ak 72 b n1,bx ak 72 b1 vz]) (Gf:=fun n1=>[(1,bD by1),(2,tV (aF b 0)),(4,tV (aF b1 0))]) (fun n1 h=>?_) (fun K=>?_)
 ·skip
  refine fX (Z:=fun n2=>lX n2=some R) (Of:=fun n2=>[bx ak 72 b n2,bx ak 72 b1 vz]) (Gf:=fun n2=>[(2,tV (aF b 0)),(4,tV (aF b1 0))]) (fun n2 h=>?_) (fun K1=>?_)
  ·skip
   refine af<|bI h fun r q_r h=>bI h fun r1 q_r1 h=>bI h fun r2 q_r2 h=>?_
   refine iw 10 (ts:=[tV (aF b 4),dX n2.Kinds,dX r,tV (aF b 7),dX n2.Keys,dX r1,tV (aF b 10),dH (gp) n2.Order,dH (gp) r2,tV (aF b 4)]) mixed J J J
    ⟨ek 2 J J J (dY 4 n6 J J J),
    ⟨c9 23 0 J J J (aX cu J J ji (.head _) (ht J)),
    ⟨c9 24 1 J J J (aK AO (zi _ q_r) ⟨(ht J),aT⟩),
    ⟨ek 2 J J J (dY 7 lZ J J J),
    ⟨c9 26 3 J J J (aX cu J J gx (.head _) (ht J)),
    ⟨c9 27 4 J J J (aK AO (zi _ q_r1) ⟨(ht J),aT⟩),
    ⟨ek 2 J J J (dY 10 pj J J J),
    ⟨c9 29 6 J J J (aX Bs J J lL (.head _) (ht J)),
    ⟨c9 30 7 J J J (aK LM (Hn _ q_r2) ⟨(ht J),aT⟩),
    ⟨ek 2 J J J (dY 4 n6 J J J),
    aT⟩⟩⟩⟩⟩⟩⟩⟩⟩⟩ ?_
   refine ap cu J oL J (ht J) (ht J)<|zo J (dY 7 lZ J J J)<|ap cu J vN J (ht J) (ht J)<|zo J (dY 10 pj J J J)<|ap Bs J uk J (ht J) (ht J)<|aw<|ay<|zo J (dY 6 pi J J J)<|zo J (dY 6 dW J J J)<|zo J (aX jG J J (mR j6 cC) (.head _) (ht J))<|bI h fun r3 q_r3 h=>iu CZ (wn _ q_r3) ⟨(ht J),aT⟩ J fun l c=>zo J (dY 6 pi J J J)<|zo J (dY 6 dW J J J)<|ms<|qA 38 J<|bN<|ap jG J (qE j6 rE tq) J (ht J) (iW (ht J))<|aw<|af<|bI h fun r4 q_r4 h=>?_
   obtain⟨r5,q_r5,h⟩:=bs h
   refine fg 7 [tc (tV (aF b 8)),tc (dH (dc) (({(ai.mk n2.Op n2.A n2.B n2.Table r n2.Left n2.Cond r1 n2.Aggs n2.Items r2 n2.Limit)with Cond:=({(ai.mk n2.Op n2.A n2.B n2.Table r n2.Left n2.Cond r1 n2.Aggs n2.Items r2 n2.Limit).Cond with Nodes:=r3}:bw)}:ai).Aggs)),([2],fun s=>tV (aC ((s.getD 0 kp).h 0).1 ((s.getD 0 kp).h 0).2 r4.length)),tc (tV (aF b 9)),tc (dH (br) (({(ai.mk n2.Op n2.A n2.B n2.Table r n2.Left n2.Cond r1 n2.Aggs n2.Items r2 n2.Limit)with Cond:=({(ai.mk n2.Op n2.A n2.B n2.Table r n2.Left n2.Cond r1 n2.Aggs n2.Items r2 n2.Limit).Cond with Nodes:=r3}:bw)}:ai).Items)),([5],fun s=>tV (aC ((s.getD 0 kp).h 0).1 ((s.getD 0 kp).h 0).2 r5.length)),tc (tV (aF b 8))] [false,false,true,false,false,true,false] [fun _=>[bx ak 72 b ({(ai.mk n2.Op n2.A n2.B n2.Table r n2.Left n2.Cond r1 n2.Aggs n2.Items r2 n2.Limit)with Cond:=({(ai.mk n2.Op n2.A n2.B n2.Table r n2.Left n2.Cond r1 n2.Aggs n2.Items r2 n2.Limit).Cond with Nodes:=r3}:bw)}:ai),bV aY 130 l c r3,bx ak 72 b1 vz],fun sg=>[ee dc 78 ((sg 2).h 0).1 ((sg 2).h 0).2 r4,bx ak 72 b ({(ai.mk n2.Op n2.A n2.B n2.Table r n2.Left n2.Cond r1 n2.Aggs n2.Items r2 n2.Limit)with Cond:=({(ai.mk n2.Op n2.A n2.B n2.Table r n2.Left n2.Cond r1 n2.Aggs n2.Items r2 n2.Limit).Cond with Nodes:=r3}:bw)}:ai),bV aY 130 l c r3,bx ak 72 b1 vz],fun sg=>[ee br 67 ((sg 5).h 0).1 ((sg 5).h 0).2 r5,ee dc 78 ((sg 2).h 0).1 ((sg 2).h 0).2 r4,bx ak 72 b ({(ai.mk n2.Op n2.A n2.B n2.Table r n2.Left n2.Cond r1 n2.Aggs n2.Items r2 n2.Limit)with Cond:=({(ai.mk n2.Op n2.A n2.B n2.Table r n2.Left n2.Cond r1 n2.Aggs n2.Items r2 n2.Limit).Cond with Nodes:=r3}:bw)}:ai),bV aY 130 l c r3,bx ak 72 b1 vz]] J mixed J J J J J
    ⟨⟨[⟨2,fun _=>tV (aF b 0),none⟩],_,0,0,J,⟨(fun _=>J),aT⟩,J,J,J,J,J,fun _ sg _ _=>ae J (dY 8 jJ J J J)⟩,
    ⟨⟨[⟨41,fun _=>tV (aF b 8),some 0⟩],_,0,0,J,⟨(fun _=>J),aT⟩,J,J,J,J,J,qY (fun sg=>ae J (aX q0 J J ic (.head _) (ht J)))⟩,
    ⟨⟨[⟨42,fun _=>tD (dz dc) (({(ai.mk n2.Op n2.A n2.B n2.Table r n2.Left n2.Cond r1 n2.Aggs n2.Items r2 n2.Limit)with Cond:=({(ai.mk n2.Op n2.A n2.B n2.Table r n2.Left n2.Cond r1 n2.Aggs n2.Items r2 n2.Limit).Cond with Nodes:=r3}:bw)}:ai).Aggs),some 1⟩],_,J,⟨(fun _=>J),aT⟩,J,J,J,fun sg=>bS J (xY (xs:=[.tmp 42]) (ts:=[tD (dz dc) (({(ai.mk n2.Op n2.A n2.B n2.Table r n2.Left n2.Cond r1 n2.Aggs n2.Items r2 n2.Limit)with Cond:=({(ai.mk n2.Op n2.A n2.B n2.Table r n2.Left n2.Cond r1 n2.Aggs n2.Items r2 n2.Limit).Cond with Nodes:=r3}:bw)}:ai).Aggs)]) LL (FD _ q_r4) ⟨(ht J),aT⟩)⟩,
    ⟨⟨[⟨2,fun _=>tV (aF b 0),none⟩],_,0,1,J,⟨(fun _=>J),aT⟩,J,J,J,J,J,fun _ sg _ _=>ae J (dY 9 kI J J J)⟩,
    ⟨⟨[⟨44,fun _=>tV (aF b 9),some 3⟩],_,0,1,J,⟨(fun _=>J),aT⟩,J,J,J,J,J,vC (fun sg=>ae J (aX rA J J gw (.head _) (ht J))) (qY (fun sg=>ae J (aX rA J J gw (.tail _ (.head _)) (ht J))))⟩,
    ⟨⟨[⟨45,fun _=>tD (dz br) (({(ai.mk n2.Op n2.A n2.B n2.Table r n2.Left n2.Cond r1 n2.Aggs n2.Items r2 n2.Limit)with Cond:=({(ai.mk n2.Op n2.A n2.B n2.Table r n2.Left n2.Cond r1 n2.Aggs n2.Items r2 n2.Limit).Cond with Nodes:=r3}:bw)}:ai).Items),some 4⟩],_,J,⟨(fun _=>J),aT⟩,J,J,J,fun sg=>bS J (xY (xs:=[.tmp 45]) (ts:=[tD (dz br) (({(ai.mk n2.Op n2.A n2.B n2.Table r n2.Left n2.Cond r1 n2.Aggs n2.Items r2 n2.Limit)with Cond:=({(ai.mk n2.Op n2.A n2.B n2.Table r n2.Left n2.Cond r1 n2.Aggs n2.Items r2 n2.Limit).Cond with Nodes:=r3}:bw)}:ai).Items)]) LK (FB _ q_r5) ⟨(ht J),aT⟩)⟩,
    ⟨⟨[⟨2,fun _=>tV (aF b 0),none⟩],_,1,2,J,⟨(fun _=>J),aT⟩,J,J,J,J,J,fun _ sg _ _=>ae J (dY 8 jJ J J J)⟩,
    aT⟩⟩⟩⟩⟩⟩⟩ (fun sg=>?_)
   refine(show RG _ _ _ _ [ee br 67 ((sg 5).h 0).1 ((sg 5).h 0).2 r5,ee dc 78 ((sg 2).h 0).1 ((sg 2).h 0).2 r4,bx ak 72 b ({(ai.mk n2.Op n2.A n2.B n2.Table r n2.Left n2.Cond r1 n2.Aggs n2.Items r2 n2.Limit)with Cond:=({(ai.mk n2.Op n2.A n2.B n2.Table r n2.Left n2.Cond r1 n2.Aggs n2.Items r2 n2.Limit).Cond with Nodes:=r3}:bw)}:ai),bV aY 130 l c r3,bx ak 72 b1 vz] _ from ?_);refine dr<|ii q0 J (rC _ _) J (ht J) (Ga (ht J))<|zo J (dY 9 kI J J J)<|ii rA J (oH _ _ _) J (ht J) (Ga (ht J))<|aw<|af<|ay<|zo J (dY 8 jJ J J J)<|zo J (jw q0 mT (.head _) J (ht J))<|zo J (eF nf (.tail _ (.tail _ (.head _))) (ht J))<|zo J (bA hI)<|aw<|ax<|il (.tail _ (.tail _ (.head _))) fun hN=>bF<|lq<|nM<|eA<|jC<|jC<|lq ?_;refine aS (iv (Z:=fun ls i n3=>(r4.drop i=ls)∧lW ls i n3=some R) (Of:=fun _ i n3=>[bx ak 72 b1 vz,bx f8 72 b (jx n3 (aC ((sg 2).h 0).1 ((sg 2).h 0).2 n3.Aggs.length) (aC ((sg 5).h 0).1 ((sg 5).h 0).2 n3.Items.length)),ee dc 78 ((sg 2).h 0).1 ((sg 2).h 0).2 n3.Aggs,ee br 67 ((sg 5).h 0).1 ((sg 5).h 0).2 n3.Items]) (Gf:=fun _ i n3=>[(2,tV (aF b 0)),(4,tV (aF b1 0)),(51,fD r4),(52,bD (i:Int))]) (fun i n3 h=>?_) (fun e tl ih i n3 h=>?_) r4 0 ({({({(ai.mk n2.Op n2.A n2.B n2.Table r n2.Left n2.Cond r1 n2.Aggs n2.Items r2 n2.Limit)with Cond:=({(ai.mk n2.Op n2.A n2.B n2.Table r n2.Left n2.Cond r1 n2.Aggs n2.Items r2 n2.Limit).Cond with Nodes:=r3}:bw)}:ai)with Aggs:=r4}:ai)with Items:=r5}:ai) ⟨J,h⟩) (bl J)
   ·obtain⟨hx,h⟩:=h
    refine aA<|ay<|zo J (ej J J)<|aw<|af<|bu (ht J) (c8 hx)<|bk ?_;refine ac (ac (aM ?_));refine av<|af<|ay<|zo rfl (dY 9 kI rfl rfl rfl)<|zo rfl (jw rA mS (.tail _ (.head _)) rfl (ht rfl))<|zo rfl (eF nc (.tail _ (.tail _ (.tail _ (.head _)))) (ht rfl))<|zo rfl (bA hI)<|aw<|ax<|il (.tail _ (.tail _ (.tail _ (.head _)))) fun hN1=>bF ?_;refine aS (iv (Z:=fun ls1 i1 n4=>(n3.Items.drop i1=ls1)∧lV ls1 i1 n4=some R) (Of:=fun _ i1 n4=>[bx ak 72 b1 vz,bx f8 72 b (jx n4 (aC ((sg 2).h 0).1 ((sg 2).h 0).2 n4.Aggs.length) (aC ((sg 5).h 0).1 ((sg 5).h 0).2 n4.Items.length)),ee dc 78 ((sg 2).h 0).1 ((sg 2).h 0).2 n4.Aggs,ee br 67 ((sg 5).h 0).1 ((sg 5).h 0).2 n4.Items]) (Gf:=fun _ i1 n4=>[(2,tV (aF b 0)),(4,tV (aF b1 0)),(72,fD n3.Items),(73,bD (i1:Int))]) (fun i1 n4 h=>?_) (fun e1 tl1 ih1 i1 n4 h=>?_) n3.Items 0 n3 ⟨J,h⟩) (bl J)
    ·obtain⟨hx1,h⟩:=h
     refine aA<|ay<|zo J (ej J J)<|aw<|af<|bu (ht J) (c8 hx1)<|bk ?_;refine ac (ac (aM ?_));refine av<|ay<|dr<|ms<|cS<|ms<|zo rfl (mN (q:=ak) (y:=n4) cE J J J J (.tail _ (.tail _ (.tail _ (.head _)))) (fun _ _ _ ho h=>sU (qK ho (.tail _ (.head _))) (qK ho (.head _)) h) (ht J))<|dr<|ap cE J aj J (ht J) (ht J)<|bc 4 J<|aw<|aq<|aU<|aU<|aU ?_;cases so h;exact iy J cE J J J
    ·obtain⟨hx1,h⟩:=h
     refine aA<|ay<|zo J (ej J J)<|aw<|af<|bt (ht J) (cY hx1)<|dJ<|af<|ax<|ay<|aH J<|bC J<|aw<|bI h fun e2 q_e2 h=>bI h fun r6 q_r6 h=>?_
     refine iw 12 (ts:=[tV (aF b 9),tV (aC ((sg 5).h 0).1 ((sg 5).h 0).2 n4.Items.length),bD (i1:Int),tV (aF b 9),tV (aC ((sg 5).h 0).1 ((sg 5).h 0).2 n4.Items.length),bD (i1:Int),tV (iY ((sg 5).h 0).1 ((i1:Int).toNat*1+0)),tV (iY ((sg 5).h 0).1 ((i1:Int).toNat*1+0)),dH (aY) e2.Nodes,dH (aY) r6,tV (iY ((sg 5).h 0).1 ((i1:Int).toNat*1+0)),tV (iY ((sg 5).h 0).1 ((i1:Int).toNat*1+0))]) mixed J J J
      ⟨ek 2 J J J (dY 9 kI J J J),
      ⟨c9 76 0 J J J (jw rA mS (.tail _ (.head _)) J (ht J)),
      ⟨ek 6 J J J (cL J),
      ⟨ek 2 J J J (dY 9 kI J J J),
      ⟨c9 79 3 J J J (jw rA mS (.tail _ (.head _)) J (ht J)),
      ⟨ek 6 J J J (cL J),
      ⟨eo 80 4 81 5 J J J J (ce nc fa (.tail _ (.tail _ (.tail _ (.head _)))) (ht J) (ht J) q_e2),
      ⟨c9 82 6 J J J (dF (o:=(i1:Int).toNat*1+0) (n:=(i1:Int).toNat*1+0) dW J (.tail _ (.tail _ (.tail _ (.head _)))) q_e2 (ht J) J),
      ⟨c9 83 7 J J J (d5 (r:=br) (i:=(i1:Int)) (foff:=0) jG J J cC J (.tail _ (.tail _ (.tail _ (.head _)))) q_e2 (ht J)),
      ⟨c9 84 8 J J J (aK CZ (CW _ q_r6) ⟨(ht J),aT⟩),
      ⟨eo 77 1 78 2 J J J J (ce nc fa (.tail _ (.tail _ (.tail _ (.head _)))) (ht J) (ht J) q_e2),
      ⟨c9 86 10 J J J (dF (o:=(i1:Int).toNat*1+0) (n:=(i1:Int).toNat*1+0) dW J (.tail _ (.tail _ (.tail _ (.head _)))) q_e2 (ht J) J),
      aT⟩⟩⟩⟩⟩⟩⟩⟩⟩⟩⟩⟩ ?_
     refine cS<|bI h fun st q_st h=>jA jG J tq J q_e2 (so q_st) (ht J) (ht J)<|dP (eD (so q_st)) 77 J<|dP (eD (so q_st)) 80 J<|s0 (O' :=[ee br 67 ((sg 5).h 0).1 ((sg 5).h 0).2 st,bx ak 72 b1 vz,bx f8 72 b (jx n4 (aC ((sg 2).h 0).1 ((sg 2).h 0).2 n4.Aggs.length) (aC ((sg 5).h 0).1 ((sg 5).h 0).2 st.length)),ee dc 78 ((sg 2).h 0).1 ((sg 2).h 0).2 n4.Aggs]) (by rw [eD (so q_st)])<|aQ<|an<|av<|am<|zo rfl (jQ (cI hx1 hN1) rfl)<|aH rfl<|aQ<|bh<|bh<|bh ?_;exact be (aS (ih1 (i1+1) ({n4 with Items:=st}:ai) ⟨cH hx1,h⟩) (bl J))
   ·obtain⟨hx,h⟩:=h
    refine aA<|ay<|zo J (ej J J)<|aw<|af<|bt (ht J) (cY hx)<|dJ<|af<|ax<|ay<|aH J<|bC J<|aw<|bI h fun e3 q_e3 h=>bI h fun r7 q_r7 h=>?_
    refine iw 14 (ts:=[tV (aF b 8),tV (aC ((sg 2).h 0).1 ((sg 2).h 0).2 n3.Aggs.length),bD (i:Int),tV (aF b 8),tV (aC ((sg 2).h 0).1 ((sg 2).h 0).2 n3.Aggs.length),bD (i:Int),tV (iY ((sg 2).h 0).1 ((i:Int).toNat*2+0)),tV (iY ((sg 2).h 0).1 ((i:Int).toNat*2+1)),tV (iY ((sg 2).h 0).1 ((i:Int).toNat*2+1)),dH (aY) e3.Arg.Nodes,dH (aY) r7,tV (iY ((sg 2).h 0).1 ((i:Int).toNat*2+0)),tV (iY ((sg 2).h 0).1 ((i:Int).toNat*2+1)),tV (iY ((sg 2).h 0).1 ((i:Int).toNat*2+1))]) mixed J J J
     ⟨ek 2 J J J (dY 8 jJ J J J),
     ⟨c9 55 0 J J J (jw q0 mT (.tail _ (.head _)) J (ht J)),
     ⟨ek 5 J J J (cL J),
     ⟨ek 2 J J J (dY 8 jJ J J J),
     ⟨c9 58 3 J J J (jw q0 mT (.tail _ (.head _)) J (ht J)),
     ⟨ek 5 J J J (cL J),
     ⟨eo 59 4 60 5 J J J J (ce nf lC (.tail _ (.tail _ (.head _))) (ht J) (ht J) q_e3),
     ⟨c9 61 6 J J J (dF (o:=(i:Int).toNat*2+0) (n:=(i:Int).toNat*2+1) wj J (.tail _ (.tail _ (.head _))) q_e3 (ht J) J),
     ⟨c9 62 7 J J J (dF (o:=(i:Int).toNat*2+1) (n:=(i:Int).toNat*2+1) dW J (.tail _ (.tail _ (.head _))) q_e3 (ht J) J),
     ⟨c9 63 8 J J J (d5 (r:=dc) (i:=(i:Int)) (foff:=1) jG J J (mR qn cC) J (.tail _ (.tail _ (.head _))) q_e3 (ht J)),
     ⟨c9 64 9 J J J (aK CZ (CW _ q_r7) ⟨(ht J),aT⟩),
     ⟨eo 56 1 57 2 J J J J (ce nf lC (.tail _ (.tail _ (.head _))) (ht J) (ht J) q_e3),
     ⟨c9 66 11 J J J (dF (o:=(i:Int).toNat*2+0) (n:=(i:Int).toNat*2+1) wj J (.tail _ (.tail _ (.head _))) q_e3 (ht J) J),
     ⟨c9 67 12 J J J (dF (o:=(i:Int).toNat*2+1) (n:=(i:Int).toNat*2+1) dW J (.tail _ (.tail _ (.head _))) q_e3 (ht J) J),
     aT⟩⟩⟩⟩⟩⟩⟩⟩⟩⟩⟩⟩⟩⟩ ?_
    refine dr<|bI h fun st1 q_st1 h=>jA jG J (qE qn EV tq) J q_e3 (so q_st1) (ht J) (ht J)<|dP (eD (so q_st1)) 56 J<|dP (eD (so q_st1)) 59 J<|s0 (O' :=[ee dc 78 ((sg 2).h 0).1 ((sg 2).h 0).2 st1,bx ak 72 b1 vz,bx f8 72 b (jx n3 (aC ((sg 2).h 0).1 ((sg 2).h 0).2 st1.length) (aC ((sg 5).h 0).1 ((sg 5).h 0).2 n3.Items.length)),ee br 67 ((sg 5).h 0).1 ((sg 5).h 0).2 n3.Items]) (by rw [eD (so q_st1)])<|aQ<|an<|av<|am<|zo rfl (jQ (cI hx hN) rfl)<|aH rfl<|aQ<|bh<|bU<|bh<|bh ?_;exact be (aS (ih (i+1) ({n3 with Aggs:=st1}:ai) ⟨cH hx,h⟩) (bl J))
  ·skip
   refine ay<|zo J (dY 2 ka J J J)<|zo J (aX bK J J fI (.head _) (ht J))<|zo J (dN (ht J) hI)<|aw<|dn h J (fun h=>?_) (fun h=>?_)
   ·refine am<|zo J (dY 2 ka J J J)<|zo J (aX bK J J fI (.head _) (ht J))<|aH J<|zo J (jf (ht J) (ht J))<|zo J (dY 2 ka J J J)<|ap bK J jY J (ht J) (ht J)<|aQ ?_;exact cd (K1 (ai.mk n1.Op n1.A (IntKind.i64.wrap (n1.B+by1)) n1.Table n1.Kinds n1.Left n1.Cond n1.Keys n1.Aggs n1.Items n1.Order n1.Limit) h) (bl J)
   ·refine bE ?_;exact cd (K1 n1 h) (bl J)
 ·skip
  refine ay<|zo J (dY 1 fK J J J)<|zo J (aX bK J J dk (.tail _ (.head _)) (ht J))<|zo J (dN (ht J) hI)<|aw<|dn h J (fun h=>?_) (fun h=>?_)
  ·refine am<|zo J (dY 1 fK J J J)<|zo J (aX bK J J dk (.tail _ (.head _)) (ht J))<|aH J<|zo J (jf (ht J) (ht J))<|zo J (dY 1 fK J J J)<|bN<|ap bK J k7 J (ht J) (ht J)<|aQ ?_;exact cd (K (ai.mk n.Op (IntKind.i64.wrap (n.A+by1)) n.B n.Table n.Kinds n.Left n.Cond n.Keys n.Aggs n.Items n.Order n.Limit) h) (bl J)
  ·refine bE<|bU ?_;exact cd (K n h) (bl J)

end Go.Proofs.YtnmjbolollcokaaGreatDoor

