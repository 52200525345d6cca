/- cJ of this claim: P11. -/
import Derived.Test.YtnmjbolollcokaaGreatDoorRbT
import Derived.Test.YtnmjbolollcokaaGreatDoorRbP10
set_option linter.all false
namespace Go.Proofs.YtnmjbolollcokaaGreatDoor
open Go
set_option maxRecDepth 100000

theorem Ko(l:(List ai)){R:Bool}(h:o9 l=some R):bn ba 9 [dH (ak) l] (eH R):=by
 refine bn.of Tryz.func9 J J J fun w0 S0=>ay<|zo J (eZ)<|aw<|af<|ay<|aH J<|zo J (gV iq J)<|zo J (eX (ht J) hI)<|aw<|dn h J (fun h=>?_) (fun h=>?_)
 ·refine ay<|zo J (eZ)<|aw<|aq<|M ?_;cases so h;exact aW J J
 ·refine dJ<|af<|ay<|aH J<|zo J (gV iq J)<|zo J (bA hI)<|aw<|ax<|bf (k:=12) J fun hN=>bF ?_;refine aS (dS (Z:=fun ls i=>(l.drop i=ls)∧fv ls=some R) (Of:=fun _ i=>[]) (Gf:=fun _ i=>[(12,dH (ak) l),(13,fD l),(14,bD (i:Int))]) (fun i h=>?_) (fun e tl ih i h=>?_) l 0 ⟨J,h⟩) (bl J)
  ·obtain⟨hx,h⟩:=h
   refine aA<|ay<|zo J (ej J J)<|aw<|af<|bu (ht J) (c8 hx)<|bk ?_;refine ac (ac (aM ?_));refine av<|ay<|zo rfl (eZ)<|aw<|aq ?_;cases so h;exact aW J J
  ·obtain⟨hx,h⟩:=h
   refine aA<|ay<|zo J (ej J J)<|aw<|af<|bt (ht J) (cY hx)<|dJ<|af<|ax<|ay<|zo J (km iq cE J J J (c0 hx))<|zo J (bz cE J J)<|bg (r:=ak) (x:=vz) cE (fun _=>gG _) J fun b=>ap cE J aj J (ht J) (ht J)<|bc 4 J<|aw<|af<|ay ?_;refine zo J (cr n6 ji J J)<|zo J (bz cu J J)<|zo J (gV dm J)<|zo J (eX (ht J) hI)<|aH J<|cZ J J (fun hg=>cr lZ gx J J)<|cZ J J (fun hg=>bp cu J J (bq J hg))<|cZ J J (fun hg=>ca dm (bq J hg))<|cZ J J (fun hg=>eX (bq J hg) hI)<|zo J (oB J J)<|aH J<|cZ J J (fun hg=>cr pj lL J J)<|cZ J J (fun hg=>bp Bs J J (bq J hg))<|cZ J J (fun hg=>ca yl (bq J hg))<|cZ J J (fun hg=>eX (bq J hg) hI)<|zo J (oB J J)<|aH J<|cZ J J (fun hg=>cr kI gw J J)<|cZ J J (fun hg=>bp rA J J (bq J hg))<|cZ J J (fun hg=>ca nc (bq J hg))<|cZ J J (fun hg=>eX (bq J hg) hI)<|zo J (oB J J)<|aH J<|cZ J J (fun hg=>cr jJ ic J J) ?_;refine cZ J J (fun hg=>bp q0 J J (bq J hg))<|cZ J J (fun hg=>ca nf (bq J hg))<|cZ J J (fun hg=>eX (bq J hg) hI)<|zo J (oB J J)<|aH J<|bI h fun t q_t h=>cZ J J (fun hg=>cr pi j6 J J)<|cZ J J (fun hg=>bp fa J J (bq J hg)) ?_
   obtain⟨r,h1t,h0t⟩:=og q_t
   have q_rg:=fun hb=>(h1t hb).1
   refine cZ J J (fun hg=>aK JI (B8 _ (q_rg hg)) ⟨(bq J hg),aT⟩)<|zo J (ez (ht J) (fun hb=>(bq J (pG hb))) (fun hb=>(h1t hb).2) h0t)<|aw<|dn h J (fun h=>?_) (fun h=>?_)
   ·refine ay<|zo J (eZ)<|aw<|aq ?_;refine M (aD (M (M (aD (M ?_)))));cases so h;exact aW J J
   ·refine dJ<|af<|ay<|zo J (cr kI gw J J)<|zo J (bz rA J J)<|zo J (gV nc J)<|zo J (bA hI)<|aw<|ax<|bf (k:=52) J fun hN1=>bF ?_;refine aS (dS (Z:=fun ls1 i1=>(e.Items.drop i1=ls1)∧jO (fv tl) e ls1=some R) (Of:=fun _ i1=>[]) (Gf:=fun _ i1=>[(4,bj ak e),(12,dH (ak) l),(13,fD l),(14,bD (i:Int)),(52,dH (br) e.Items),(53,fD e.Items),(54,bD (i1:Int))]) (fun i1 h=>?_) (fun e1 tl1 ih1 i1 h=>?_) e.Items 0 ⟨J,h⟩) (bl J)
    ·obtain⟨hx1,h⟩:=h
     refine aA<|ay<|zo J (ej J J)<|aw<|af<|bu (ht J) (c8 hx1)<|bk ?_;refine ac (ac (aM ?_));refine av<|ay<|zo rfl (cr jJ ic rfl rfl)<|zo rfl (bz q0 rfl rfl)<|zo rfl (gV nf rfl)<|zo rfl (bA hI)<|aw<|ax<|bf (k:=62) J fun hN2=>bF ?_;refine aS (dS (Z:=fun ls2 i2=>(e.Aggs.drop i2=ls2)∧jN (fv tl) ls2=some R) (Of:=fun _ i2=>[]) (Gf:=fun _ i2=>[(12,dH (ak) l),(13,fD l),(14,bD (i:Int)),(62,dH (dc) e.Aggs),(63,fD e.Aggs),(64,bD (i2:Int))]) (fun i2 h=>?_) (fun e2 tl2 ih2 i2 h=>?_) e.Aggs 0 ⟨J,h⟩) (bl J)
     ·obtain⟨hx2,h⟩:=h
      refine aA<|ay<|zo J (ej J J)<|aw<|af<|bu (ht J) (c8 hx2)<|bk ?_;refine ac (ac (aM ?_));refine an<|av<|am<|zo rfl (jQ (cI hx hN) rfl)<|aH rfl<|aQ ?_;exact be (aS (ih (i+1) ⟨cH hx,h⟩) (bl J))
     ·obtain⟨hx2,h⟩:=h
      refine aA<|ay<|zo J (ej J J)<|aw<|af<|bt (ht J) (cY hx2)<|dJ<|af<|ax<|ay<|zo J (km nf lC J J J (c0 hx2))<|zo J (bz lC J J)<|bg (r:=dc) (x:=Ge) lC (fun _=>tk _) J fun b1=>ap lC J aj J (ht J) (ht J)<|bc 8 J<|aw<|ay<|zo J (cr wj qn J J) ?_;refine zo J (bz fa J J)<|bI h fun r1 q_r1 h=>zo J (aK JI (B8 _ q_r1) ⟨(ht J),aT⟩)<|aw<|dn h J (fun h=>?_) (fun h=>?_)
      ·refine ay<|zo J (eZ)<|aw<|aq ?_;refine aD (M (M (aD (aD (M (M (aD (M ?_))))))));cases so h;exact aW J J
      ·refine bE<|an<|av<|am<|zo rfl (jQ (cI hx2 hN2) rfl)<|aH rfl<|aQ ?_;exact be (aS (ih2 (i2+1) ⟨cH hx2,h⟩) (bl J))
    ·obtain⟨hx1,h⟩:=h
     refine aA<|ay<|zo J (ej J J)<|aw<|af<|bt (ht J) (cY hx1)<|dJ<|af<|ax<|ay<|zo J (km nc fa J J J (c0 hx1))<|zo J (bz fa J J)<|bg (r:=br) (x:=mz) fa (fun _=>mh _) J fun b2=>ap fa J aj J (ht J) (ht J)<|bc 6 J<|aw<|ay<|zo J (bz fa J J) ?_;refine bI h fun r2 q_r2 h=>zo J (aK JI (B8 _ q_r2) ⟨(ht J),aT⟩)<|aw<|dn h J (fun h=>?_) (fun h=>?_)
     ·refine ay<|zo J (eZ)<|aw<|aq ?_;refine aD (M (M (aD (M (aD (M (M (aD (M ?_)))))))));cases so h;exact aW J J
     ·refine bE<|an<|av<|am<|zo rfl (jQ (cI hx1 hN1) rfl)<|aH rfl<|aQ ?_;exact be (aS (ih1 (i1+1) ⟨cH hx1,h⟩) (bl J))

theorem Jn(p:bW){R:Bool}(h:kG p=some R):bn ba 16 [tD bB p] (eH R):=by
 refine bn.of Tryz.func16 J J J fun w0 S0=>ay<|zo J (gY J)<|zo J (eZ)<|aw<|af<|ay<|zo J (cr gP fC J J)<|zo J (bz nP J J)<|zo J (gV lP J)<|zo J (eX (ht J) hI)<|aw<|dn h J (fun h=>?_) (fun h=>?_)
 ·refine ay<|zo J (eZ)<|aw<|aq<|M ?_;cases so h;exact aW J J
 ·refine dJ<|af<|ay<|zo J (cr gP fC J J)<|zo J (bz nP J J)<|zo J (gV lP J)<|zo J (bA hI)<|aw<|ax<|bf (k:=10) J fun hN=>bF ?_;refine aS (dS (Z:=fun ls i=>(p.Frags.drop i=ls)∧gi ls=some R) (Of:=fun _ i=>[]) (Gf:=fun _ i=>[(10,dH (aN) p.Frags),(11,fD p.Frags),(12,bD (i:Int))]) (fun i h=>?_) (fun e tl ih i h=>?_) p.Frags 0 ⟨J,h⟩) (bl J)
  ·obtain⟨hx,h⟩:=h
   refine aA<|ay<|zo J (ej J J)<|aw<|af<|bu (ht J) (c8 hx)<|bk ?_;refine ac (ac (aM ?_));refine av<|ay<|zo rfl (eZ)<|aw<|aq ?_;cases so h;exact aW J J
  ·obtain⟨hx,h⟩:=h
   refine aA<|ay<|zo J (ej J J)<|aw<|af<|bt (ht J) (cY hx)<|dJ<|af<|ax<|ay<|zo J (km lP lR J J J (c0 hx))<|zo J (bz lR J J)<|bg (r:=aN) (x:=H5) lR (fun _=>sh _) J fun b=>ap lR J aj J (ht J) (ht J)<|bc 4 J<|aw<|ay<|zo J (cr IV DY J J) ?_;refine zo J (bz cu J J)<|zo J (gV dm J)<|zo J (eX (ht J) hI)<|aH J<|bI h fun t q_t h=>cZ J J (fun hg=>cr wk ov J J)<|cZ J J (fun hg=>bp k5 J J (bq J hg)) ?_
   obtain⟨r,h1t,h0t⟩:=og q_t
   have q_rg:=fun hb=>(h1t hb).1
   refine cZ J J (fun hg=>aK cb9 (Ko _ (q_rg hg)) ⟨(bq J hg),aT⟩)<|zo J (ez (ht J) (fun hb=>(bq J (pG hb))) (fun hb=>(h1t hb).2) h0t)<|aw<|dn h J (fun h=>?_) (fun h=>?_)
   ·refine ay<|zo J (eZ)<|aw<|aq ?_;refine aD (M (M (aD (M ?_))));cases so h;exact aW J J
   ·refine bE<|an<|av<|am<|zo rfl (jQ (cI hx hN) rfl)<|aH rfl<|aQ ?_;exact be (aS (ih (i+1) ⟨cH hx,h⟩) (bl J))

theorem I9(frag:Int)(node:Int)(s:aV)(x:Int){R:Bool}(h:oZ frag node s x=some R):bn ba 50 [tD bv s,bD x,bj bM frag,bj bM node] (eH R):=by
 refine bn.of Tryz.func50 J J J fun w0 S0=>ay<|zo J (gY J)<|zo J (eZ)<|aw<|ay<|zo J (cr B2 nC J J)<|zo J (bz bK J J)<|zo J (bz bK J J)<|zo J (cj (ht J) (ht J))<|aH J<|co J J (fun hg=>cr Fn ql J J)<|co J J (fun hg=>bp bK J J (bq J hg))<|co J J (fun hg=>bz bK J J)<|co J J (fun hg=>cj (bq J hg) (bq J hg))<|zo J (mv J J)<|bC J<|aw<|aq ?_;cases so h;exact aW J J

theorem Jm(p:bW)(frag:Int)(nodes:Int)(node:Int){R:(List aV)×Int}(h:o0 p frag nodes node=some R):bn ba 18 [tD bB p,bD frag,bD nodes,bD node] (tT [dH (bv) R.1,bD R.2]):=by
 refine bn.of Tryz.func18 J J J fun w0 S0=>ay<|zo J (gY J)<|zo J (gY J)<|zo J (gY J)<|zo J (aP (show aG _ _ _ Bm from ib))<|zo J (d9)<|aw<|af<|ay<|zo J (bz iV J J)<|zo J (bz bK J J)<|aH J<|bI h fun r q_r h=>zo J (aK Hv (zj _ _ _ q_r) ⟨(ht J),(ht J),(ht J),aT⟩)<|bC J<|aw<|ay<|aH J ?_;refine zo J (yr J)<|aw<|dn h J (fun h=>?_) (fun h=>?_)
 ·refine ay<|aH J<|zo J (aP (show aG _ _ _ Bm from ib))<|bC J<|aw<|aq<|M ?_;cases so h;exact cv J J J
 ·refine dJ<|ay<|zo J (bz iV J J)<|aH J<|zo J ((show bH _ _ _ _ ((eN ba yw jX (fun(x:aV×Int)=>(oZ frag node) x.1 x.2)))from jd (cts:=[bj bM frag,bj bM node]) (caps:=[.tmp 5,.tmp 7]) MM ⟨(ht J),(ht J),aT⟩ (fun x y h=>I9 _ _ _ _ h)))<|bI h fun r1 q_r1 h=>zo J (aK JH (B7 _ _ _ q_r1) ⟨(ht J),(ht J),(ht J),aT⟩)<|bC J<|zo J (d9)<|aw<|aq ?_;cases so h;exact cv J J J

theorem I8(frag:Int)(node:Int)(s:aV)(to1:Int){R:Bool}(h:qe frag node s to1=some R):bn ba 51 [tD bv s,bD to1,bj bM frag,bj bM node] (eH R):=by
 refine bn.of Tryz.func51 J J J fun w0 S0=>ay<|zo J (gY J)<|zo J (eZ)<|aw<|ay<|aH J<|zo J (bz bK J J)<|zo J (cj (ht J) (ht J))<|aH J<|co J J (fun hg=>cr Fm qk J J)<|co J J (fun hg=>bp bK J J (bq J hg))<|co J J (fun hg=>bz bK J J)<|co J J (fun hg=>cj (bq J hg) (bq J hg))<|zo J (mv J J)<|bC J<|aw<|aq ?_;cases so h;exact aW J J

theorem Jl(p:bW)(frag:Int)(nodes:Int)(node:Int){R:(List aV)×Int}(h:qI p frag nodes node=some R):bn ba 19 [tD bB p,bD frag,bD nodes,bD node] (tT [dH (bv) R.1,bD R.2]):=by
 refine bn.of Tryz.func19 J J J fun w0 S0=>ay<|zo J (gY J)<|zo J (gY J)<|zo J (gY J)<|zo J (aP (show aG _ _ _ Bm from ib))<|zo J (d9)<|aw<|af<|ay<|zo J (bz iV J J)<|zo J (bz bK J J)<|aH J<|bI h fun r q_r h=>zo J (aK Hv (zj _ _ _ q_r) ⟨(ht J),(ht J),(ht J),aT⟩)<|bC J<|aw<|ay<|aH J ?_;refine zo J (yr J)<|aw<|dn h J (fun h=>?_) (fun h=>?_)
 ·refine ay<|aH J<|zo J (aP (show aG _ _ _ Bm from ib))<|bC J<|aw<|aq<|M ?_;cases so h;exact cv J J J
 ·refine dJ<|ay<|zo J (bz iV J J)<|aH J<|zo J ((show bH _ _ _ _ ((eN ba yw jX (fun(x:aV×Int)=>(qe frag node) x.1 x.2)))from jd (cts:=[bj bM frag,bj bM node]) (caps:=[.tmp 5,.tmp 7]) ML ⟨(ht J),(ht J),aT⟩ (fun x y h=>I8 _ _ _ _ h)))<|bI h fun r1 q_r1 h=>zo J (aK JH (B7 _ _ _ q_r1) ⟨(ht J),(ht J),(ht J),aT⟩)<|bC J<|zo J (d9)<|aw<|aq ?_;cases so h;exact cv J J J

end Go.Proofs.YtnmjbolollcokaaGreatDoor

