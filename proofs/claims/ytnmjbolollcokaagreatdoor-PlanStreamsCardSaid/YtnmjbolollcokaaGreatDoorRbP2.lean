/- cJ of this claim: P2. -/
import Derived.Test.YtnmjbolollcokaaGreatDoorRbT
import Derived.Test.YtnmjbolollcokaaGreatDoorRbP1
set_option linter.all false
namespace Go.Proofs.YtnmjbolollcokaaGreatDoor
open Go
set_option maxRecDepth 100000

theorem CQ(e:bw)(kinds:(List Int)){R:Bool}(h:qh e kinds=some R):bn ba 207 [tD br e,dX kinds] (eH R):=by
 refine bn.of Tryz.func207 J J J fun w0 S0=>ay<|zo J (gY J)<|zo J (eZ)<|aw<|ay<|zo J (bz fa J J)<|aH J<|bI h fun r q_r h=>zo J (aK FP (zk _ _ q_r) ⟨(ht J),(ht J),aT⟩)<|aH J<|zo J (iU J J)<|zo J (iU J J)<|bC J<|bC J<|aw<|ay<|aH J<|zo J (jR J) ?_;refine aH J<|co J J (fun hg=>cL J)<|co J J (fun hg=>cj (bq J hg) hI)<|co J J (fun hg=>bA (bq J hg))<|ep J J J J (fun hg=>cL J)<|ep J J J J (fun hg=>cj (bq J hg) hI)<|co J J (fun hg=>oo (bq J hg) (fun hb=>(bq J (w9 hg (pG hb)))))<|zo J (mv J J)<|bC J<|aw<|aq ?_;cases so h;exact aW J J

theorem Jw(b:Nat)(ix:OI)(c:aB)(n:ai){R:(List Int)×Bool}(h:hU c n=some R):cz ba 149 [tV (aF b 0),tD ak n] (cD b c ix) (fun _:OI=>tT [dX R.1,eH R.2]) (fun _=>(cD b c ix)):=by
 refine cz.of Tryz.func149 J J J fun w0 S0=>?_;refine(show CG _ _ _ [bx (rH aZ [(1,aC (ix.h 0).1 (ix.h 0).2 c.kinds.length),(2,aC (ix.h 1).1 (ix.h 1).2 c.first.length)]) 123 b c,bV dG 42 (ix.h 0).1 (ix.h 0).2 c.kinds,bV bM 3 (ix.h 1).1 (ix.h 1).2 c.first] _ from ?_);refine ay<|zo J (gY J)<|zo J (aP (show aG _ _ _ lQ from ib))<|zo J (eZ)<|aw<|af<|bI h fun e q_e h=>bI h fun e1 q_e1 h=>bI h fun r q_r h=>?_
 refine eR (ts:=[_,_,_,_,_,_,_,_,_,_,_,_,_,_,_,_,_,_,_]) mixed J J
  ⟨ek 0 J J J (cL J),
  ⟨c9 7 0 J J J (cN (ht J)),
  ⟨c9 8 1 J J J (dY 1 iQ J J J),
  ⟨c9 9 2 J J J (cX pE J (.head _) (.tail _ (.head _)) (ht J)),
  ⟨ek 3 J J J (cr fK dk J J),
  ⟨c9 11 4 J J J (bz bK J J),
  ⟨eo 10 3 12 5 J J J J (aO ne cu J (iW (ht J)) (ht J) q_e),
  ⟨c9 13 6 J J J (bz cu J J),
  ⟨ek 0 J J J (cL J),
  ⟨c9 15 8 J J J (cN (ht J)),
  ⟨c9 16 9 J J J (dY 1 iQ J J J),
  ⟨c9 17 10 J J J (cX pE J (.head _) (.tail _ (.head _)) (ht J)),
  ⟨ek 3 J J J (cr ka fI J J),
  ⟨c9 19 12 J J J (bz bK J J),
  ⟨eo 18 11 20 13 J J J J (aO ne cu J (iW (ht J)) (ht J) q_e1),
  ⟨c9 21 14 J J J (bz cu J J),
  ⟨eo 14 7 22 15 J J J J (aR (r:=kx) (ys:=[e,e1]) (xs:=[.tmp 14,.tmp 22]) ne cu J J J J J ⟨(ht J),(ht J),aT⟩),
  ⟨c9 23 16 J J J (aK Lb (G3 _ q_r) ⟨(ht J),aT⟩),
  ⟨c9 24 17 J J J (vB J),
  aT⟩⟩⟩⟩⟩⟩⟩⟩⟩⟩⟩⟩⟩⟩⟩⟩⟩⟩⟩ ?_
 refine av<|ay<|aH rfl<|zo rfl (cr pi j6 rfl rfl)<|zo rfl (bz fa rfl rfl)<|aH rfl<|bI h fun r1 q_r1 h=>zo J (aK HO (CQ _ _ q_r1) ⟨(ht J),(ht J),aT⟩)<|bC J<|bC J<|aw<|aq<|au<|au<|au ?_;cases so h;exact fN (ts:=[dX r,eH r1]) (rvs:=[.tmp 4,.tmp 5]) J J ⟨cG J,cG J,aT⟩ kp J J

theorem Ju(b:Nat)(ix:OI)(c:aB)(n:ai){R:(List Int)×Bool}(h:ge c n=some R):cz ba 150 [tV (aF b 0),tD ak n] (cD b c ix) (fun _:OI=>tT [dX R.1,eH R.2]) (fun _=>(cD b c ix)):=by
 refine cz.of Tryz.func150 J J J fun w0 S0=>?_;refine(show CG _ _ _ [bx (rH aZ [(1,aC (ix.h 0).1 (ix.h 0).2 c.kinds.length),(2,aC (ix.h 1).1 (ix.h 1).2 c.first.length)]) 123 b c,bV dG 42 (ix.h 0).1 (ix.h 0).2 c.kinds,bV bM 3 (ix.h 1).1 (ix.h 1).2 c.first] _ from ?_);refine ay<|zo J (gY J)<|zo J (aP (show aG _ _ _ lQ from ib))<|zo J (eZ)<|aw<|af<|bI h fun e q_e h=>bI h fun r q_r h=>?_
 refine eR (ts:=[_,_,_,_,_,_,_,_,_,_,_,_,_,_,_,_,_,_,_,_,_]) mixed J J
  ⟨ek 0 J J J (cL J),
  ⟨c9 6 0 J J J (cN (ht J)),
  ⟨c9 7 1 J J J (dY 1 iQ J J J),
  ⟨c9 8 2 J J J (cX pE J (.head _) (.tail _ (.head _)) (ht J)),
  ⟨ek 3 J J J (cr fK dk J J),
  ⟨c9 10 4 J J J (bz bK J J),
  ⟨eo 9 3 11 5 J J J J (aO ne cu J (iW (ht J)) (ht J) q_e),
  ⟨c9 12 6 J J J (bz cu J J),
  ⟨ek 3 J J J (cr pi j6 J J),
  ⟨c9 14 8 J J J (bz fa J J),
  ⟨ek 0 J J J (cL J),
  ⟨c9 16 10 J J J (cN (ht J)),
  ⟨c9 17 11 J J J (dY 1 iQ J J J),
  ⟨c9 18 12 J J J (cX pE J (.head _) (.tail _ (.head _)) (ht J)),
  ⟨ek 3 J J J (cr fK dk J J),
  ⟨c9 20 14 J J J (bz bK J J),
  ⟨eo 19 13 21 15 J J J J (aO ne cu J (iW (ht J)) (ht J) q_e),
  ⟨c9 22 16 J J J (bz cu J J),
  ⟨eo 15 9 23 17 J J J J (aK HO (CQ _ _ q_r) ⟨(ht J),(ht J),aT⟩),
  ⟨c9 13 7 J J J (vB J),
  ⟨c9 24 18 J J J (vB J),
  aT⟩⟩⟩⟩⟩⟩⟩⟩⟩⟩⟩⟩⟩⟩⟩⟩⟩⟩⟩⟩⟩ ?_
 refine av<|aq<|au<|au<|au ?_;cases so h;exact fN (ts:=[dX e,eH r]) (rvs:=[.tmp 4,.tmp 5]) J J ⟨cG J,cG J,aT⟩ kp J J

theorem GR(kinds:(List Int))(c:Int){R:Bool}(h:mO kinds c=some R):bn ba 238 [bD c,bj dG kinds] (eH R):=by
 refine bn.of Tryz.func238 J J J fun w0 S0=>ay<|zo J (eZ)<|aw<|ay<|aH J<|zo J (eW (ht J) hI)<|aH J<|cZ J J (fun hg=>cL J)<|cZ J J (fun hg=>bz cu J J)<|cZ J J (fun hg=>ca dm (bq J hg))<|cZ J J (fun hg=>dN (bq J hg) (bq J hg))<|zo J (oB J J)<|bC J<|aw<|aq ?_;cases so h;exact aW J J

theorem G2(l:(List Int))(kinds:(List Int)){R:Bool}(h:sA l kinds=some R):bn ba 208 [dX l,dX kinds] (eH R):=by
 refine bn.of Tryz.func208 J J J fun w0 S0=>ay<|zo J (gY J)<|zo J (eZ)<|aw<|ay<|aH J<|zo J ((show bH _ _ _ _ ((eN ba EC jX (fun(x:Int)=>(mO kinds) x)))from jd (cts:=[bj dG kinds]) (caps:=[.tmp 3]) KS ⟨(ht J),aT⟩ (fun x y h=>GR _ _ h)))<|bI h fun r q_r h=>zo J (aK HS (CU _ _ q_r) ⟨(ht J),(ht J),aT⟩)<|zo J (d8 (ht J))<|bC J<|aw<|aq ?_;cases so h;exact aW J J

theorem G1(a1:ko)(kinds:(List Int)){R:Int×Bool}(h:xL a1 kinds=some R):bn ba 209 [tD dc a1,dX kinds] (tT [bD R.1,eH R.2]):=by
 refine bn.of Tryz.func209 J J J fun w0 S0=>ay<|zo J (gY J)<|zo J (d9)<|zo J (eZ)<|aw<|af<|ay<|zo J (cr ze sM J J)<|zo J (bz bK J J)<|zo J (jR J)<|aw<|dn h J (fun h=>?_) (fun h=>?_)
 ·refine af ?_
  refine eR (ts:=[_,_,_,_,_,_,_]) mixed J J
   ⟨ek 2 J J J (cr wj qn J J),
   ⟨c9 11 0 J J J (cr dW cC J J),
   ⟨c9 12 1 J J J (bz jG J J),
   ⟨c9 13 2 J J J (gV iT J),
   ⟨c9 14 3 J J J (jR J),
   ⟨JW J J (d9),
   ⟨c9 15 4 J J J (vB J),
   aT⟩⟩⟩⟩⟩⟩⟩ ?_
  refine av<|aq<|M ?_;cases so h;exact cv J J J
 ·refine dJ<|ay<|zo J (cr wj qn J J)<|zo J (bz fa J J)<|aH J<|bI h fun r q_r h=>zo J (aK FP (zk _ _ q_r) ⟨(ht J),(ht J),aT⟩)<|aH J<|zo J (iU J J)<|zo J (iU J J)<|bC J<|bC J<|aw<|af<|ay<|zo J (cr ze sM J J)<|zo J (bz bK J J)<|aw<|ax ?_;refine ay<|zo J (jR J)<|bC J<|aw<|dn h J (fun h=>?_) (fun h=>?_)
  ·refine ay<|aH J<|zo J (jR J)<|zo J (d9)<|bC J<|aw<|aq ?_;refine aD (M ?_);cases so h;exact cv J J J
  ·refine ay<|zo J (jR J)<|bC J<|aw<|dn h J (fun h=>?_) (fun h=>?_)
   ·refine ay<|aH J<|zo J (jR J)<|aH J<|co J J (fun hg=>cL J)<|co J J (fun hg=>cj (bq J hg) hI)<|co J J (fun hg=>bA (bq J hg))<|ep J J J J (fun hg=>cL J)<|ep J J J J (fun hg=>cj (bq J hg) hI)<|co J J (fun hg=>oo (bq J hg) (fun hb=>(bq J (w9 hg (pG hb)))))<|zo J (mv J J)<|zo J (d9)<|bC J<|aw<|aq ?_;refine aD (M ?_);cases so h;exact cv J J J
   ·refine fX (Z:=fun x=>o7 r x=some R) (Of:=fun x=>[]) (Gf:=fun x=>[(6,bD r.1),(7,bD r.2),(41,eH x)]) (fun x h=>?_) (fun K=>?_)
    ·skip
     refine dn h J (fun h=>?_) (fun h=>?_)
     ·refine ay<|aH J<|aH J<|zo J (jR J)<|bC J<|bC J<|aw<|aq ?_;refine aD (M ?_);cases so h;exact cv J J J
     ·refine bE<|an<|av<|ay<|zo rfl (d9)<|zo rfl (eZ)<|aw<|aq ?_;cases so h;exact cv J J J
    ·skip
     refine ay<|zo J (jR J)<|bC J<|aw<|dn h J (fun h=>?_) (fun h=>?_)
     ·refine bE ?_;exact cd (K (a1.Tag==(4:Int)) h) (bl J)
     ·refine am<|zo J (jR J)<|bC J<|aQ ?_;exact cd (K (a1.Tag==(5:Int)) h) (bl J)

theorem Jt(b:Nat)(ix:OI)(c:aB)(n:ai){R:(List Int)×Bool}(h:gD c n=some R):cz ba 151 [tV (aF b 0),tD ak n] (cD b c ix) (fun _:OI=>tT [dX R.1,eH R.2]) (fun _=>(cD b c ix)):=by
 refine cz.of Tryz.func151 J J J fun w0 S0=>?_;refine(show CG _ _ _ [bx (rH aZ [(1,aC (ix.h 0).1 (ix.h 0).2 c.kinds.length),(2,aC (ix.h 1).1 (ix.h 1).2 c.first.length)]) 123 b c,bV dG 42 (ix.h 0).1 (ix.h 0).2 c.kinds,bV bM 3 (ix.h 1).1 (ix.h 1).2 c.first] _ from ?_);refine ay<|zo J (gY J)<|zo J (aP (show aG _ _ _ lQ from ib))<|zo J (eZ)<|aw<|af<|bI h fun e q_e h=>?_
 refine eR (ts:=[_,_,_,_,_,_,_,_,_]) mixed J J
  ⟨ek 0 J J J (cL J),
  ⟨c9 15 0 J J J (cN (ht J)),
  ⟨c9 16 1 J J J (dY 1 iQ J J J),
  ⟨c9 17 2 J J J (cX pE J (.head _) (.tail _ (.head _)) (ht J)),
  ⟨ek 3 J J J (cr fK dk J J),
  ⟨c9 19 4 J J J (bz bK J J),
  ⟨eo 18 3 20 5 J J J J (aO ne cu J (iW (ht J)) (ht J) q_e),
  ⟨c9 21 6 J J J (bz cu J J),
  ⟨c9 22 7 J J J (vB J),
  aT⟩⟩⟩⟩⟩⟩⟩⟩⟩ ?_
 refine av<|ay<|zo rfl (cr lZ gx rfl rfl)<|zo rfl (bz cu rfl rfl)<|zo rfl (gV dm rfl)<|zo rfl (je (ht rfl) hI)<|aH rfl<|co rfl rfl (fun hg=>cr jJ ic J J)<|co J J (fun hg=>bp q0 J J (bq J hg))<|co J J (fun hg=>ca nf (bq J hg))<|co J J (fun hg=>je (bq J hg) hI)<|zo J (mv J J)<|aH J<|co J J (fun hg=>cr lZ gx J J)<|co J J (fun hg=>bp cu J J (bq J hg))<|co J J (fun hg=>ca dm (bq J hg))<|co J J (fun hg=>cr jJ ic J J)<|co J J (fun hg=>bp q0 J J (bq J hg))<|co J J (fun hg=>ca nf (bq J hg))<|co J J (fun hg=>jf (bq J hg) (bq J hg))<|co J J (fun hg=>eX (bq J hg) hI)<|zo J (mv J J)<|aH J ?_;refine bI h fun t q_t h=>co J J (fun hg=>cr lZ gx J J)<|co J J (fun hg=>bp cu J J (bq J hg))<|co J J (fun hg=>cL J) ?_
 obtain⟨r,h1t,h0t⟩:=og q_t
 have q_rg:=fun hb=>(h1t hb).1
 refine co J J (fun hg=>aK La (G2 _ _ (q_rg hg)) ⟨(bq J hg),(bq J hg),aT⟩)<|zo J (dZ (ht J) (fun hb=>(bq J hb)) (fun hb=>(h1t hb).2) h0t)<|bC J<|aw<|af<|ay<|aH J<|zo J (d8 (ht J))<|aw<|dn h J (fun h=>?_) (fun h=>?_)
 ·refine ay<|zo J (aP (show aG _ _ _ lQ from ib))<|zo J (eZ)<|aw<|aq<|M<|au<|au<|au ?_;cases so h;exact fN (ts:=[dX ([]),eH false]) (rvs:=[.tmp 4,.tmp 5]) J J ⟨cG J,cG J,aT⟩ kp J J
 ·refine dJ<|ay<|bQ false bM 3<|zo J (aP pI)<|aw<|af<|ay<|zo J (cr lZ gx J J)<|zo J (bz cu J J)<|zo J (gV dm J)<|zo J (bA hI)<|aw<|ax<|bf (k:=52) J fun hN=>bF ?_;refine aS (kQ (Z:=fun ls i out l c1=>(n.Keys.drop i=ls)∧hY n e t ls out=some R) (Of:=fun _ i out l c1=>[ee bM 3 l c1 out,bx (rH aZ [(1,aC (ix.h 0).1 (ix.h 0).2 c.kinds.length),(2,aC (ix.h 1).1 (ix.h 1).2 c.first.length)]) 123 b c,bV dG 42 (ix.h 0).1 (ix.h 0).2 c.kinds,bV bM 3 (ix.h 1).1 (ix.h 1).2 c.first]) (Gf:=fun _ i out l c1=>[(3,bj ak n),(6,dX e),(7,eH t),(8,nb l c1 out),(52,dX n.Keys),(53,fD n.Keys),(54,bD (i:Int))]) (fun i out l c1 h=>?_) (fun e1 tl ih i out l c1 h=>?_) n.Keys 0 my none 0 ⟨J,h⟩) (bl J)
  ·obtain⟨hx,h⟩:=h
   refine aA<|ay<|zo J (ej J J)<|aw<|af<|bu (ht J) (c8 hx)<|bk ?_;refine ac (ac (aM ?_));refine av<|af<|ay<|zo rfl (cr jJ ic rfl rfl)<|zo rfl (bz q0 rfl rfl)<|zo rfl (gV nf rfl)<|zo rfl (bA hI)<|aw<|ax<|bf (k:=67) J fun hN1=>bF ?_;refine aS (qC (Z:=fun ls1 i1 out1 l1 c2 ok=>(n.Aggs.drop i1=ls1)∧hX e ls1 out1 ok=some R) (Of:=fun _ i1 out1 l1 c2 ok=>[ee bM 3 l1 c2 out1,bx (rH aZ [(1,aC (ix.h 0).1 (ix.h 0).2 c.kinds.length),(2,aC (ix.h 1).1 (ix.h 1).2 c.first.length)]) 123 b c,bV dG 42 (ix.h 0).1 (ix.h 0).2 c.kinds,bV bM 3 (ix.h 1).1 (ix.h 1).2 c.first]) (Gf:=fun _ i1 out1 l1 c2 ok=>[(6,dX e),(7,eH ok),(8,nb l1 c2 out1),(67,dH (dc) n.Aggs),(68,fD n.Aggs),(69,bD (i1:Int))]) (fun i1 out1 l1 c2 ok h=>?_) (fun e2 tl1 ih1 i1 out1 l1 c2 ok h=>?_) n.Aggs 0 out l c1 t ⟨J,h⟩) (bl J)
   ·obtain⟨hx1,h⟩:=h
    refine aA<|ay<|zo J (ej J J)<|aw<|af<|bu (ht J) (c8 hx1)<|bk ?_;refine ac (ac (aM ?_));refine av<|ay<|aH rfl<|aH rfl<|bC rfl<|bC rfl<|aw<|aq<|fY<|cB 8 rfl<|cB 88 rfl<|cB 4 rfl<|gS 4 rfl<|aU<|au<|au<|au ?_;cases so h;exact fN (ts:=[dX out1,eH ok]) (rvs:=[.tmp 4,.tmp 5]) J J ⟨cG J,cG J,aT⟩ kp J J
   ·obtain⟨hx1,h⟩:=h
    refine aA<|ay<|zo J (ej J J)<|aw<|af<|bt (ht J) (cY hx1)<|dJ<|af<|ax<|ay<|zo J (km nf lC J J J (c0 hx1))<|zo J (bz lC J J)<|bg (r:=dc) (x:=Ge) lC (fun _=>tk _) J fun b1=>ap lC J aj J (ht J) (ht J)<|bc 12 J<|aw<|ay<|zo J (bz lC J J) ?_;refine aH J<|bI h fun r1 q_r1 h=>zo J (aK K9 (G1 _ _ q_r1) ⟨(ht J),(ht J),aT⟩)<|aH J<|zo J (iU J J)<|zo J (iU J J)<|bC J<|bC J<|aw<|am<|aH J<|aH J<|zo J (aR (r:=bM) (ys:=[r1.1]) (xs:=[.tmp 80]) dm bK J J J J J ⟨(ht J),aT⟩)<|bI h fun out2 q_out2 h=>cT bK J J J J dm J J (ht J) (ht J) q_out2 fun l2 c3=>aH J<|aH J<|co J J (fun hg=>cL J)<|zo J (mv J J)<|bC J<|bC J<|aQ<|an ?_;refine av<|am<|zo rfl (jQ (cI hx1 hN1) rfl)<|aH rfl<|aQ ?_;exact be (aS (ih1 (i1+1) out2 l2 c3 (ok&&r1.2) ⟨cH hx1,h⟩) (bl J))
  ·obtain⟨hx,h⟩:=h
   refine aA<|ay<|zo J (ej J J)<|aw<|af<|bt (ht J) (cY hx)<|dJ<|af<|ax<|ay<|zo J (km dm bK J J J (c0 hx))<|zo J (bz bK J J)<|bC J<|aw<|am<|aH J<|aH J<|aH J<|bI h fun e3 q_e3 h=>?_;refine zo J (km dm bK J J J q_e3)<|zo J (bz bK J J)<|zo J (aR (r:=bM) (ys:=[e3]) (xs:=[.tmp 62]) dm bK J J J J J ⟨(ht J),aT⟩)<|bI h fun out3 q_out3 h=>cT bK J J J J dm J J (ht J) (ht J) q_out3 fun l3 c4=>bC J<|aQ<|an<|av<|am<|zo rfl (jQ (cI hx hN) rfl)<|aH rfl<|aQ ?_;exact be (aS (ih (i+1) out3 l3 c4 ⟨cH hx,h⟩) (bl J))

theorem Js(b:Nat)(ix:OI)(c:aB)(n:ai){R:(List Int)×Bool}(h:fO c n=some R):cz ba 152 [tV (aF b 0),tD ak n] (cD b c ix) (fun _:OI=>tT [dX R.1,eH R.2]) (fun _=>(cD b c ix)):=by
 refine cz.of Tryz.func152 J J J fun w0 S0=>?_;refine(show CG _ _ _ [bx (rH aZ [(1,aC (ix.h 0).1 (ix.h 0).2 c.kinds.length),(2,aC (ix.h 1).1 (ix.h 1).2 c.first.length)]) 123 b c,bV dG 42 (ix.h 0).1 (ix.h 0).2 c.kinds,bV bM 3 (ix.h 1).1 (ix.h 1).2 c.first] _ from ?_);refine ay<|zo J (gY J)<|zo J (aP (show aG _ _ _ lQ from ib))<|zo J (eZ)<|aw<|ay<|zo J (cr kI gw J J)<|zo J (bz rA J J)<|zo J (gV nc J)<|zo J (dN (ht J) hI)<|aH J<|co J J (fun hg=>cr kI gw J J)<|co J J (fun hg=>bp rA J J (bq J hg))<|co J J (fun hg=>ca nc (bq J hg))<|co J J (fun hg=>je (bq J hg) hI)<|zo J (mv J J)<|bC J<|aw<|ay ?_;refine bQ false bM 3<|zo J (aP pI)<|aw<|af<|ay<|zo J (cr kI gw J J)<|zo J (bz rA J J)<|zo J (gV nc J)<|zo J (bA hI)<|aw<|ax<|bf (k:=23) J fun hN=>bF ?_;refine aS (qC (Z:=fun ls i out l c1 ok=>(n.Items.drop i=ls)∧gu c n ls out ok=some R) (Of:=fun _ i out l c1 ok=>[ee bM 3 l c1 out,bx (rH aZ [(1,aC (ix.h 0).1 (ix.h 0).2 c.kinds.length),(2,aC (ix.h 1).1 (ix.h 1).2 c.first.length)]) 123 b c,bV dG 42 (ix.h 0).1 (ix.h 0).2 c.kinds,bV bM 3 (ix.h 1).1 (ix.h 1).2 c.first]) (Gf:=fun _ i out l c1 ok=>[(0,tV (aF b 0)),(3,bj ak n),(6,eH ok),(7,nb l c1 out),(23,dH (br) n.Items),(24,fD n.Items),(25,bD (i:Int))]) (fun i out l c1 ok h=>?_) (fun e tl ih i out l c1 ok h=>?_) n.Items 0 my none 0 ((decide ((1:Int)≤(n.Items.length:Int)))&&(decide ((n.Items.length:Int)≤(16:Int)))) ⟨J,h⟩) (bl J)
 ·obtain⟨hx,h⟩:=h
  refine aA<|ay<|zo J (ej J J)<|aw<|af<|bu (ht J) (c8 hx)<|bk ?_;refine ac (ac (aM ?_));refine av<|ay<|aH rfl<|aH rfl<|bC rfl<|bC rfl<|aw<|aq<|fY<|cB 7 rfl<|cB 52 rfl<|cB 4 rfl<|gS 4 rfl<|aU<|au<|au<|au ?_;cases so h;exact fN (ts:=[dX out,eH ok]) (rvs:=[.tmp 4,.tmp 5]) J J ⟨cG J,cG J,aT⟩ kp J J
 ·obtain⟨hx,h⟩:=h
  refine aA<|ay<|zo J (ej J J)<|aw<|af<|bt (ht J) (cY hx)<|dJ<|af<|ax<|ay<|zo J (km nc fa J J J (c0 hx))<|zo J (bz fa J J)<|bg (r:=br) (x:=mz) fa (fun _=>mh _) J fun b1=>ap fa J aj J (ht J) (ht J)<|bc 9 J<|aw<|af<|bI h fun e1 q_e1 h=>bI h fun r q_r h=>?_
  refine eR (ts:=[_,_,_,_,_,_,_,_,_,_,_,_,_,_,_]) mixed J J
   ⟨ek 9 J J J (bz fa J J),
   ⟨ek 0 J J J (cL J),
   ⟨c9 31 1 J J J (cN (ht J)),
   ⟨c9 32 2 J J J (dY 1 iQ J J J),
   ⟨c9 33 3 J J J (cX pE J (.tail _ (.head _)) (.tail _ (.tail _ (.head _))) (ht J)),
   ⟨ek 3 J J J (cr fK dk J J),
   ⟨c9 35 5 J J J (bz bK J J),
   ⟨eo 34 4 36 6 J J J J (aO ne cu J (iW (ht J)) (ht J) q_e1),
   ⟨c9 37 7 J J J (bz cu J J),
   ⟨eo 30 0 38 8 J J J J (aK FP (zk _ _ q_r) ⟨(ht J),(ht J),aT⟩),
   ⟨c9 39 9 J J J (cL J),
   ⟨c9 29 10 J J J (iU J J),
   ⟨c9 29 10 J J J (iU J J),
   ⟨c9 40 11 J J J (vB J),
   ⟨c9 41 12 J J J (vB J),
   aT⟩⟩⟩⟩⟩⟩⟩⟩⟩⟩⟩⟩⟩⟩⟩ ?_
  refine av<|am<|aH rfl<|aH rfl<|zo rfl (aR (r:=bM) (ys:=[r.1]) (xs:=[.tmp 43]) dm bK J J J J J ⟨(ht J),aT⟩)<|bI h fun out1 q_out1 h=>cT bK J J J J dm J J (ht J) (ht J) q_out1 fun l1 c2=>aH J<|aH J<|co J J (fun hg=>cL J)<|co J J (fun hg=>cj (bq J hg) hI)<|zo J (mv J J)<|bC J<|bC J<|aQ<|an<|av<|am<|zo rfl (jQ (cI hx hN) rfl)<|aH rfl<|aQ ?_;exact be (aS (ih (i+1) out1 l1 c2 (ok&&(r.2==(0:Int))) ⟨cH hx,h⟩) (bl J))

theorem Jr(b:Nat)(ix:OI)(c:aB)(n:ai){R:(List Int)×Bool}(h:fm c n=some R):cz ba 153 [tV (aF b 0),tD ak n] (cD b c ix) (fun _:OI=>tT [dX R.1,eH R.2]) (fun _=>(cD b c ix)):=by
 refine cz.of Tryz.func153 J J J fun w0 S0=>?_;refine(show CG _ _ _ [bx (rH aZ [(1,aC (ix.h 0).1 (ix.h 0).2 c.kinds.length),(2,aC (ix.h 1).1 (ix.h 1).2 c.first.length)]) 123 b c,bV dG 42 (ix.h 0).1 (ix.h 0).2 c.kinds,bV bM 3 (ix.h 1).1 (ix.h 1).2 c.first] _ from ?_);refine ay<|zo J (gY J)<|zo J (aP (show aG _ _ _ lQ from ib))<|zo J (eZ)<|aw<|af<|bI h fun e q_e h=>?_
 refine eR (ts:=[_,_,_,_,_,_,_,_,_,_]) mixed J J
  ⟨ek 0 J J J (cL J),
  ⟨c9 6 0 J J J (cN (ht J)),
  ⟨c9 7 1 J J J (dY 1 iQ J J J),
  ⟨c9 8 2 J J J (cX pE J (.head _) (.tail _ (.head _)) (ht J)),
  ⟨ek 3 J J J (cr fK dk J J),
  ⟨c9 10 4 J J J (bz bK J J),
  ⟨eo 9 3 11 5 J J J J (aO ne cu J (iW (ht J)) (ht J) q_e),
  ⟨c9 12 6 J J J (bz cu J J),
  ⟨c9 13 7 J J J (vB J),
  ⟨JW J J (eZ),
  aT⟩⟩⟩⟩⟩⟩⟩⟩⟩⟩ ?_
 refine av<|aq<|au<|au<|au ?_;cases so h;exact fN (ts:=[dX e,eH true]) (rvs:=[.tmp 4,.tmp 5]) J J ⟨cG J,cG J,aT⟩ kp J J

theorem Jq(b:Nat)(ix:OI)(c:aB)(n:ai){R:(List Int)×Bool}(h:gB c n=some R):cz ba 154 [tV (aF b 0),tD ak n] (cD b c ix) (fun _:OI=>tT [dX R.1,eH R.2]) (fun _=>(cD b c ix)):=by
 refine cz.of Tryz.func154 J J J fun w0 S0=>?_;refine(show CG _ _ _ [bx (rH aZ [(1,aC (ix.h 0).1 (ix.h 0).2 c.kinds.length),(2,aC (ix.h 1).1 (ix.h 1).2 c.first.length)]) 123 b c,bV dG 42 (ix.h 0).1 (ix.h 0).2 c.kinds,bV bM 3 (ix.h 1).1 (ix.h 1).2 c.first] _ from ?_);refine ay<|zo J (gY J)<|zo J (aP (show aG _ _ _ lQ from ib))<|zo J (eZ)<|aw<|af<|bI h fun e q_e h=>bI h fun e1 q_e1 h=>?_
 refine eR (ts:=[_,_,_,_,_,_,_,_,_,_,_,_,_,_,_,_,_,_]) mixed J J
  ⟨ek 0 J J J (cL J),
  ⟨c9 12 0 J J J (cN (ht J)),
  ⟨c9 13 1 J J J (dY 1 iQ J J J),
  ⟨c9 14 2 J J J (cX pE J (.head _) (.tail _ (.head _)) (ht J)),
  ⟨ek 3 J J J (cr fK dk J J),
  ⟨c9 16 4 J J J (bz bK J J),
  ⟨eo 15 3 17 5 J J J J (aO ne cu J (iW (ht J)) (ht J) q_e),
  ⟨c9 18 6 J J J (bz cu J J),
  ⟨ek 0 J J J (cL J),
  ⟨c9 20 8 J J J (cN (ht J)),
  ⟨c9 21 9 J J J (dY 1 iQ J J J),
  ⟨c9 22 10 J J J (cX pE J (.head _) (.tail _ (.head _)) (ht J)),
  ⟨ek 3 J J J (cr ka fI J J),
  ⟨c9 24 12 J J J (bz bK J J),
  ⟨eo 23 11 25 13 J J J J (aO ne cu J (iW (ht J)) (ht J) q_e1),
  ⟨c9 26 14 J J J (bz cu J J),
  ⟨c9 19 7 J J J (vB J),
  ⟨c9 27 15 J J J (vB J),
  aT⟩⟩⟩⟩⟩⟩⟩⟩⟩⟩⟩⟩⟩⟩⟩⟩⟩⟩ ?_
 refine av<|af<|ay<|aH rfl<|zo rfl (gV dm rfl)<|aH rfl<|zo rfl (gV dm rfl)<|zo rfl (dq (ht rfl) (ht rfl))<|aw<|dn h rfl (fun h=>?_) (fun h=>?_)
 ·refine ay<|zo J (aP (show aG _ _ _ lQ from ib))<|zo J (eZ)<|aw<|aq<|M<|au<|au<|au ?_;cases so h;exact fN (ts:=[dX ([]),eH false]) (rvs:=[.tmp 4,.tmp 5]) J J ⟨cG J,cG J,aT⟩ kp J J
 ·refine dJ<|ay<|aH J<|bI h fun r q_r h=>iu AO (vk _ q_r) ⟨(ht J),aT⟩ J fun l c1=>bC J<|aw<|ay<|zo J (eZ)<|aw<|af<|ay<|aH J<|zo J (gV dm J)<|zo J (bA hI)<|aw<|ax ?_;refine bf (k:=35) J fun hN=>bF ?_;refine aS (kR (Z:=fun ls i out ok=>(e1.drop i=ls)∧eh ls i out ok=some R) (Of:=fun _ i out ok=>[ee bM 3 l c1 out,bx (rH aZ [(1,aC (ix.h 0).1 (ix.h 0).2 c.kinds.length),(2,aC (ix.h 1).1 (ix.h 1).2 c.first.length)]) 123 b c,bV dG 42 (ix.h 0).1 (ix.h 0).2 c.kinds,bV bM 3 (ix.h 1).1 (ix.h 1).2 c.first]) (Gf:=fun _ i out ok=>[(8,nb l c1 out),(9,eH ok),(35,dX e1),(36,fD e1),(37,bD (i:Int))]) (fun i out ok h=>?_) (fun e2 tl ih i out ok h=>?_) e1 0 r true ⟨J,h⟩) (bl J)
  ·obtain⟨hx,h⟩:=h
   refine aA<|ay<|zo J (ej J J)<|aw<|af<|bu (ht J) (c8 hx)<|bk ?_;refine ac (ac (aM ?_));refine av<|ay<|aH rfl<|aH rfl<|bC rfl<|bC rfl<|aw<|aq<|fY<|cB 8 rfl<|cB 65 rfl<|cB 4 rfl<|gS 4 rfl<|aU<|au<|au<|au ?_;cases so h;exact fN (ts:=[dX out,eH ok]) (rvs:=[.tmp 4,.tmp 5]) J J ⟨cG J,cG J,aT⟩ kp J J
  ·obtain⟨hx,h⟩:=h
   refine aA<|ay<|zo J (ej J J)<|aw<|af<|bt (ht J) (cY hx)<|dJ<|af<|ax<|ay<|aH J<|zo J (km dm bK J J J (c0 hx))<|zo J (bz bK J J)<|bC J<|bC J<|aw ?_;refine fX (Z:=fun out1=>hP (eh tl) i e2 ok out1=some R) (Of:=fun out1=>[ee bM 3 l c1 out1,bx (rH aZ [(1,aC (ix.h 0).1 (ix.h 0).2 c.kinds.length),(2,aC (ix.h 1).1 (ix.h 1).2 c.first.length)]) 123 b c,bV dG 42 (ix.h 0).1 (ix.h 0).2 c.kinds,bV bM 3 (ix.h 1).1 (ix.h 1).2 c.first]) (Gf:=fun out1=>[(8,nb l c1 out1),(9,eH ok),(10,bD (i:Int)),(11,bD e2),(35,dX e1),(36,fD e1),(37,bD (i:Int))]) (fun out1 h=>?_) (fun K=>?_)
   ·skip
    refine am<|aH J<|aH J<|bI h fun t q_t h=>co J J (fun hg=>cL J)<|co J J (fun hg=>cL J) ?_
    obtain⟨e3,h1t,h0t⟩:=og q_t
    have q_e3g:=fun hb=>(h1t hb).1
    refine co J J (fun hg=>ce dm bK (.head _) (bq J hg) (bq J hg) (q_e3g hg))<|co J J (fun hg=>d5 (r:=bM) (i:=(i:Int)) (foff:=0) bK J J bm J (.head _) (q_e3g hg) (bq J hg))<|co J J (fun hg=>cL J)<|co J J (fun hg=>cj (bq J hg) (bq J hg))<|co J J (fun hg=>bA (bq J hg))<|ep J J J J (fun hg=>cL J)<|ep J J J J (fun hg=>cj (bq J hg) hI)<|co J J (fun hg=>oo (bq J hg) (fun hb=>(bq J (w9 hg (pG hb)))))<|zo J (dZ (ht J) (fun hb=>(bq J hb)) (fun hb=>(h1t hb).2) h0t)<|bC J<|aQ<|an<|av<|am<|zo rfl (jQ (cI hx hN) rfl)<|aH rfl<|aQ ?_;exact be (aS (ih (i+1) out1 t ⟨cH hx,h⟩) (bl J))
   ·skip
    refine ay<|aH J<|aH J<|bI h fun e4 q_e4 h=>zo J (ce dm bK (.head _) (ht J) (ht J) q_e4)<|zo J (d5 (r:=bM) (i:=(i:Int)) (foff:=0) bK J J bm J (.head _) q_e4 (ht J))<|zo J (jR J)<|aw<|dn h J (fun h=>?_) (fun h=>?_)
    ·refine am<|aH J<|aH J<|aH J<|zo J (ce dm bK (.head _) (ht J) (ht J) q_e4)<|bI h fun st q_st h=>jA bK J aj J q_e4 (so q_st) (ht J) (ht J)<|dP (eD (so q_st)) 8 J<|dP (eD (so q_st)) 42 J<|dP (eD (so q_st)) 47 J<|aQ ?_;exact cd (K st h) (bl J)
    ·refine bE ?_;exact cd (K out h) (bl J)

theorem G0(in1:(List Int))(o:jD){R:Bool}(h:iM in1 o=some R):bn ba 211 [tD gp o,bj dG in1] (eH R):=by
 refine bn.of Tryz.func211 J J J fun w0 S0=>ay<|zo J (gY J)<|zo J (eZ)<|aw<|ay<|zo J (cr CO AG J J)<|zo J (bz bK J J)<|zo J (eW (ht J) hI)<|aH J<|cZ J J (fun hg=>cr CO AG J J)<|cZ J J (fun hg=>bp bK J J (bq J hg))<|cZ J J (fun hg=>bz cu J J)<|cZ J J (fun hg=>ca dm (bq J hg))<|cZ J J (fun hg=>dN (bq J hg) (bq J hg))<|zo J (oB J J)<|bC J<|aw<|aq ?_;cases so h;exact aW J J

theorem GO(s:(List jD))(f:(jD→Option Bool)){R:Int}(h:f6 s f=some R):bn ba 242 [dH (gp) s,(eN ba ED jX (fun(x:jD)=>f x))] (bD R):=by
 refine bn.of Tryz.func242 J J J fun w0 S0=>ay<|zo J (d9)<|aw<|af<|ay<|aH J<|zo J (gV yl J)<|zo J (bA hI)<|aw<|ax<|bf (k:=6) J fun hN=>bF ?_;refine aS (dS (Z:=fun ls i=>(s.drop i=ls)∧d3 f ls i=some R) (Of:=fun _ i=>[]) (Gf:=fun _ i=>[(0,dH (gp) s),(1,(eN ba ED jX (fun(x:jD)=>f x))),(7,fD s),(8,bD (i:Int))]) (fun i h=>?_) (fun e tl ih i h=>?_) s 0 ⟨J,h⟩) (bl J)
 ·obtain⟨hx,h⟩:=h
  refine aA<|ay<|zo J (ej J J)<|aw<|af<|bu (ht J) (c8 hx)<|bk ?_;refine ac (ac (aM ?_));refine av<|ay<|zo rfl (d9)<|aw<|aq ?_;cases so h;exact aW J J
 ·obtain⟨hx,h⟩:=h
  refine aA<|ay<|zo J (ej J J)<|aw<|af<|bt (ht J) (cY hx)<|dJ<|af<|ax<|ay<|aH J<|bC J<|aw<|ay<|aH J<|aH J<|aH J<|zo J (km yl Cx J J J (c0 hx)) ?_;refine zo J (bz Cx J J)<|bI h fun r q_r h=>zo J (gc (args:=ED) (res:=Bn) (f:=(fun(x:jD)=>f x)) (x:=((e):jD)) (ht J) q_r ⟨(ht J),aT⟩)<|aw<|dn h J (fun h=>?_) (fun h=>?_)
  ·refine ay<|aH J<|bC J<|aw<|aq ?_;refine aD (M (M (aD (M ?_))));cases so h;exact aW J J
  ·refine bE<|an<|av<|am<|zo rfl (jQ (cI hx hN) rfl)<|aH rfl<|aQ ?_;exact be (aS (ih (i+1) ⟨cH hx,h⟩) (bl J))

end Go.Proofs.YtnmjbolollcokaaGreatDoor

