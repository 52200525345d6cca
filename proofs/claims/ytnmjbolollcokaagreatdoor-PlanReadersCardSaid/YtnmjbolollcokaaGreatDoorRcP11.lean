/- cR of this claim: P11. -/
import Derived.Test.YtnmjbolollcokaaGreatDoorRcT
import Derived.Test.YtnmjbolollcokaaGreatDoorRcP10
set_option linter.all false
namespace Go.Proofs.YtnmjbolollcokaaGreatDoor
open Go
set_option maxRecDepth 100000

theorem TO(l:(List M)){R:Bool}(h:uD l=some R):bA bc 9 [fZ (ai) l] (gX R):=by
 refine bA.of Tryz.func9 J J J fun w0 S0=>aA<|zo J (iO)<|ax<|af<|aA<|aJ J<|zo J (lx ly J)<|zo J (gU (ht J) hI)<|ax<|eE h J (fun h=>?_) (fun h=>?_)
 ·refine aA<|zo J (iO)<|ax<|av<|aa ?_;cases so h;exact ba J J
 ·refine fO<|af<|aA<|aJ J<|zo J (lx ly J)<|zo J (bJ hI)<|ax<|aB<|bl (k:=12) J fun hN=>bU ?_;refine aW (fM (Z:=fun ls i=>(l.drop i=ls)∧i9 ls=some R) (Of:=fun _ i=>[]) (Gf:=fun _ i=>[(12,fZ (ai) l),(13,jB l),(14,cm (i:Int))]) (fun i h=>?_) (fun e tl ih i h=>?_) l 0 ⟨J,h⟩) (bu J)
  ·obtain⟨hx,h⟩:=h
   refine aC<|aA<|zo J (gP J J)<|ax<|af<|bF (ht J) (d5 hx)<|bt ?_;refine ac (ac (aN ?_));refine aw<|aA<|zo rfl (iO)<|ax<|av ?_;cases so h;exact ba J J
  ·obtain⟨hx,h⟩:=h
   refine aC<|aA<|zo J (gP J J)<|ax<|af<|bE (ht J) (dZ hx)<|fO<|af<|aB<|aA<|zo J (nY ly dg J J J (d4 hx))<|zo J (bH dg J J)<|bh (r:=ai) (x:=BN) dg (fun _=>kD _) J fun b=>ap dg J aj J (ht J) (ht J)<|bf 4 J<|ax<|af<|aA ?_;refine zo J (cQ tf mq J J)<|zo J (bH cS J J)<|zo J (lx d8 J)<|zo J (gU (ht J) hI)<|aJ J<|dQ J J (fun hg=>cQ qy ko J J)<|dQ J J (fun hg=>bD cS J J (bB J hg))<|dQ J J (fun hg=>cA d8 (bB J hg))<|dQ J J (fun hg=>gU (bB J hg) hI)<|zo J (ua J J)<|aJ J<|dQ J J (fun hg=>cQ uN qn J J)<|dQ J J (fun hg=>bD Ip J J (bB J hg))<|dQ J J (fun hg=>cA yl (bB J hg))<|dQ J J (fun hg=>gU (bB J hg) hI)<|zo J (ua J J)<|aJ J<|dQ J J (fun hg=>cQ oI km J J)<|dQ J J (fun hg=>bD xq J J (bB J hg))<|dQ J J (fun hg=>cA rY (bB J hg))<|dQ J J (fun hg=>gU (bB J hg) hI)<|zo J (ua J J)<|aJ J<|dQ J J (fun hg=>cQ mT li J J) ?_;refine dQ J J (fun hg=>bD wQ J J (bB J hg))<|dQ J J (fun hg=>cA rX (bB J hg))<|dQ J J (fun hg=>gU (bB J hg) hI)<|zo J (ua J J)<|aJ J<|bT h fun t q_t h=>dQ J J (fun hg=>cQ uM nu J J)<|dQ J J (fun hg=>bD iG J J (bB J hg)) ?_
   obtain⟨r,h1t,h0t⟩:=og q_t
   have q_rg:=fun hb=>(h1t hb).1
   refine dQ J J (fun hg=>aL ST (Jl _ (q_rg hg)) ⟨(bB J hg),aV⟩)<|zo J (gT (ht J) (fun hb=>(bB J (vN hb))) (fun hb=>(h1t hb).2) h0t)<|ax<|eE h J (fun h=>?_) (fun h=>?_)
   ·refine aA<|zo J (iO)<|ax<|av ?_;refine aa (aF (aa (aa (aF (aa ?_)))));cases so h;exact ba J J
   ·refine fO<|af<|aA<|zo J (cQ oI km J J)<|zo J (bH xq J J)<|zo J (lx rY J)<|zo J (bJ hI)<|ax<|aB<|bl (k:=52) J fun hN1=>bU ?_;refine aW (fM (Z:=fun ls1 i1=>(e.Items.drop i1=ls1)∧m8 (i9 tl) e ls1=some R) (Of:=fun _ i1=>[]) (Gf:=fun _ i1=>[(4,bw ai e),(12,fZ (ai) l),(13,jB l),(14,cm (i:Int)),(52,fZ (bz) e.Items),(53,jB e.Items),(54,cm (i1:Int))]) (fun i1 h=>?_) (fun e1 tl1 ih1 i1 h=>?_) e.Items 0 ⟨J,h⟩) (bu J)
    ·obtain⟨hx1,h⟩:=h
     refine aC<|aA<|zo J (gP J J)<|ax<|af<|bF (ht J) (d5 hx1)<|bt ?_;refine ac (ac (aN ?_));refine aw<|aA<|zo rfl (cQ mT li rfl rfl)<|zo rfl (bH wQ rfl rfl)<|zo rfl (lx rX rfl)<|zo rfl (bJ hI)<|ax<|aB<|bl (k:=62) J fun hN2=>bU ?_;refine aW (fM (Z:=fun ls2 i2=>(e.Aggs.drop i2=ls2)∧m7 (i9 tl) ls2=some R) (Of:=fun _ i2=>[]) (Gf:=fun _ i2=>[(12,fZ (ai) l),(13,jB l),(14,cm (i:Int)),(62,fZ (dW) e.Aggs),(63,jB e.Aggs),(64,cm (i2:Int))]) (fun i2 h=>?_) (fun e2 tl2 ih2 i2 h=>?_) e.Aggs 0 ⟨J,h⟩) (bu J)
     ·obtain⟨hx2,h⟩:=h
      refine aC<|aA<|zo J (gP J J)<|ax<|af<|bF (ht J) (d5 hx2)<|bt ?_;refine ac (ac (aN ?_));refine an<|aw<|am<|zo rfl (nF (dv hx hN) rfl)<|aJ rfl<|aR ?_;exact bj (aW (ih (i+1) ⟨du hx,h⟩) (bu J))
     ·obtain⟨hx2,h⟩:=h
      refine aC<|aA<|zo J (gP J J)<|ax<|af<|bE (ht J) (dZ hx2)<|fO<|af<|aB<|aA<|zo J (nY rX pZ J J J (d4 hx2))<|zo J (bH pZ J J)<|bh (r:=dW) (x:=ON) pZ (fun _=>zF _) J fun b1=>ap pZ J aj J (ht J) (ht J)<|bf 8 J<|ax<|aA<|zo J (cQ Cz vT J J) ?_;refine zo J (bH iG J J)<|bT h fun r1 q_r1 h=>zo J (aL ST (Jl _ q_r1) ⟨(ht J),aV⟩)<|ax<|eE h J (fun h=>?_) (fun h=>?_)
      ·refine aA<|zo J (iO)<|ax<|av ?_;refine aF (aa (aa (aF (aF (aa (aa (aF (aa ?_))))))));cases so h;exact ba J J
      ·refine bO<|an<|aw<|am<|zo rfl (nF (dv hx2 hN2) rfl)<|aJ rfl<|aR ?_;exact bj (aW (ih2 (i2+1) ⟨du hx2,h⟩) (bu J))
    ·obtain⟨hx1,h⟩:=h
     refine aC<|aA<|zo J (gP J J)<|ax<|af<|bE (ht J) (dZ hx1)<|fO<|af<|aB<|aA<|zo J (nY rY iG J J J (d4 hx1))<|zo J (bH iG J J)<|bh (r:=bz) (x:=rb) iG (fun _=>qF _) J fun b2=>ap iG J aj J (ht J) (ht J)<|bf 6 J<|ax<|aA<|zo J (bH iG J J) ?_;refine bT h fun r2 q_r2 h=>zo J (aL ST (Jl _ q_r2) ⟨(ht J),aV⟩)<|ax<|eE h J (fun h=>?_) (fun h=>?_)
     ·refine aA<|zo J (iO)<|ax<|av ?_;refine aF (aa (aa (aF (aa (aF (aa (aa (aF (aa ?_)))))))));cases so h;exact ba J J
     ·refine bO<|an<|aw<|am<|zo rfl (nF (dv hx1 hN1) rfl)<|aJ rfl<|aR ?_;exact bj (aW (ih1 (i1+1) ⟨du hx1,h⟩) (bu J))

end Go.Proofs.YtnmjbolollcokaaGreatDoor

