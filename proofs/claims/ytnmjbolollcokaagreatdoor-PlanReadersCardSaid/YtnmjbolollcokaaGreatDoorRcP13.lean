/- cR of this claim: P13. -/
import Derived.Test.YtnmjbolollcokaaGreatDoorRcT
import Derived.Test.YtnmjbolollcokaaGreatDoorRcP12
set_option linter.all false
namespace Go.Proofs.YtnmjbolollcokaaGreatDoor
open Go
set_option maxRecDepth 100000

theorem SI(c:bG){R:Bool}(h:mJ c=some R):bA bc 10 [tD eh c] (gX R):=by
 refine bA.of Tryz.func10 J J J fun w0 S0=>aA<|zo J (l9 J)<|zo J (iO)<|ax<|af<|aA<|zo J (cQ vZ j3 J J)<|zo J (bH Gs J J)<|zo J (lx zC J)<|zo J (gU (ht J) hI)<|ax<|eE h J (fun h=>?_) (fun h=>?_)
 ·refine aA<|zo J (iO)<|ax<|av<|aa ?_;cases so h;exact ba J J
 ·refine fO<|af<|aA<|zo J (cQ vZ j3 J J)<|zo J (bH Gs J J)<|zo J (lx zC J)<|zo J (bJ hI)<|ax<|aB<|bl (k:=12) J fun hN=>bU ?_;refine aW (fM (Z:=fun ls i=>(c.Tables.drop i=ls)∧fU ls=some R) (Of:=fun _ i=>[]) (Gf:=fun _ i=>[(12,fZ (di) c.Tables),(13,jB c.Tables),(14,cm (i:Int))]) (fun i h=>?_) (fun e tl ih i h=>?_) c.Tables 0 ⟨J,h⟩) (bu J)
  ·obtain⟨hx,h⟩:=h
   refine aC<|aA<|zo J (gP J J)<|ax<|af<|bF (ht J) (d5 hx)<|bt ?_;refine ac (ac (aN ?_));refine aw<|aA<|zo rfl (iO)<|ax<|av ?_;cases so h;exact ba J J
  ·obtain⟨hx,h⟩:=h
   refine aC<|aA<|zo J (gP J J)<|ax<|af<|bE (ht J) (dZ hx)<|fO<|af<|aB<|aA<|zo J (nY zC ud J J J (d4 hx))<|zo J (bH ud J J)<|bh (r:=di) (x:=(⟨[],[],[]⟩:br)) ud (fun _=>ym _) J fun b=>ap ud J aj J (ht J) (ht J)<|bf 4 J<|ax<|af<|aA ?_;refine zo J (cQ vW mp J J)<|zo J (bH Gr J J)<|zo J (lx vd J)<|zo J (gU (ht J) hI)<|aJ J<|dQ J J (fun hg=>cQ Fz uJ J J)<|dQ J J (fun hg=>bD cS J J (bB J hg))<|dQ J J (fun hg=>cA d8 (bB J hg))<|dQ J J (fun hg=>gU (bB J hg) hI)<|zo J (ua J J)<|aJ J<|dQ J J (fun hg=>cQ Je xP J J)<|dQ J J (fun hg=>bD Io J J (bB J hg))<|dQ J J (fun hg=>yM kV (bB J hg))<|dQ J J (fun hg=>gU (bB J hg) hI)<|zo J (ua J J)<|ax<|eE h J (fun h=>?_) (fun h=>?_)
   ·refine aA<|zo J (iO)<|ax<|av ?_;refine aa (aF (aa (aa (aF (aa ?_)))));cases so h;exact ba J J
   ·refine fO<|aA<|zo J (cQ vW mp J J)<|zo J (bH Gr J J)<|zo J (lx vd J)<|zo J (bJ hI)<|ax<|aB<|bl (k:=35) J fun hN1=>bU ?_;refine aW (fM (Z:=fun ls1 i1=>(e.Columns.drop i1=ls1)∧gH (fU tl) ls1=some R) (Of:=fun _ i1=>[]) (Gf:=fun _ i1=>[(12,fZ (di) c.Tables),(13,jB c.Tables),(14,cm (i:Int)),(35,fZ (dk) e.Columns),(36,jB e.Columns),(37,cm (i1:Int))]) (fun i1 h=>?_) (fun e1 tl1 ih1 i1 h=>?_) e.Columns 0 ⟨J,h⟩) (bu J)
    ·obtain⟨hx1,h⟩:=h
     refine aC<|aA<|zo J (gP J J)<|ax<|af<|bF (ht J) (d5 hx1)<|bt ?_;refine ac (ac (aN ?_));refine an<|aw<|am<|zo rfl (nF (dv hx hN) rfl)<|aJ rfl<|aR ?_;exact bj (aW (ih (i+1) ⟨du hx,h⟩) (bu J))
    ·obtain⟨hx1,h⟩:=h
     refine aC<|aA<|zo J (gP J J)<|ax<|af<|bE (ht J) (dZ hx1)<|fO<|af<|aB<|aA<|zo J (nY vd pY J J J (d4 hx1))<|zo J (bH pY J J)<|bh (r:=dk) (x:=OO) pY (fun _=>o6 _) J fun b1=>ap pY J aj J (ht J) (ht J)<|bf 6 J<|ax<|aA<|zo J (cQ NM AO J J) ?_;refine zo J (bH Io J J)<|zo J (yM kV (ht J))<|zo J (gU (ht J) hI)<|ax<|eE h J (fun h=>?_) (fun h=>?_)
     ·refine aA<|zo J (iO)<|ax<|av ?_;refine aF (aa (aa (aF (aF (aa (aa (aF (aa ?_))))))));cases so h;exact ba J J
     ·refine bO<|an<|aw<|am<|zo rfl (nF (dv hx1 hN1) rfl)<|aJ rfl<|aR ?_;exact bj (aW (ih1 (i1+1) ⟨du hx1,h⟩) (bu J))

theorem T0(l:bK)(c:bG){R:Bool}(h:oH l c=some R):bA bc 4 [tD cH l,tD eh c] (gX R):=by
 refine bA.of Tryz.func4 J J J fun w0 S0=>aA<|zo J (l9 J)<|zo J (l9 J)<|zo J (iO)<|ax<|af<|aA<|bT h fun r q_r h=>zo J (aL cb8 (TP q_r) trivial)<|zo J (gj (ht J))<|ax<|eE h J (fun h=>?_) (fun h=>?_)
 ·refine aA<|zo J (iO)<|ax<|av<|aa ?_;cases so h;exact ba J J
 ·refine fO<|af<|aA<|zo J (cQ pz js J J)<|zo J (bH pe J J)<|bT h fun r1 q_r1 h=>zo J (aL cb9 (TO _ q_r1) ⟨(ht J),aV⟩)<|aJ J<|bT h fun t q_t h=>dQ J J (fun hg=>bH ET J J) ?_
  obtain⟨r2,h1t,h0t⟩:=og q_t
  have q_r2g:=fun hb=>(h1t hb).1
  refine dQ J J (fun hg=>aL Wk (SI _ (q_r2g hg)) ⟨(bB J hg),aV⟩)<|zo J (gT (ht J) (fun hb=>(bB J (vN hb))) (fun hb=>(h1t hb).2) h0t)<|ax<|eE h J (fun h=>?_) (fun h=>?_)
  ·refine aA<|zo J (iO)<|ax<|av<|aa ?_;cases so h;exact ba J J
  ·refine fO<|aA<|zo J (bH pc J J)<|zo J (bH ET J J)<|bT h fun r3 q_r3 h=>zo J (aL Vb (NY _ _ q_r3) ⟨(ht J),(ht J),aV⟩)<|aJ J<|zo J (mA J J)<|zo J (mA J J)<|bh (r:=bR) (x:=tw) mV (fun _=>sd _) J fun b=>ap mV J aj J (ht J) (ht J)<|bf 5 J<|bN J<|ax<|af<|aA<|aJ J<|zo J (H8 J)<|ax ?_;refine eE h J (fun h=>?_) (fun h=>?_)
   ·refine aA<|zo J (cQ lj jH J J)<|zo J (bH tA J J)<|zo J (lx rZ J)<|zo J (mU J)<|bN J<|ax<|av<|aa ?_;cases so h;exact ba J J
   ·refine fO<|aA<|xT (xb (fun y:Bool=>gX y)) tu J fun b1=>bN J<|ax<|af<|aA<|zo J (cQ lj jH J J)<|zo J (bH tA J J)<|zo J (lx rZ J)<|zo J (bJ hI)<|ax<|aB<|bl (k:=36) J fun hN=>bU ?_;refine aW (oQ (Z:=fun ls i read os=>(r3.1.Frags.drop i=ls)∧ic r3 ls i read=some R) (Of:=fun _ i read os=>[mS (xb (fun y:Bool=>gX y)) tu b1 none os read]) (Gf:=fun _ i read os=>[(5,bw bR r3.1),(7,tV (oW b1)),(37,jB r3.1.Frags),(38,cm (i:Int))]) (fun i read os h=>?_) (fun e tl ih i read os h=>?_) r3.1.Frags 0 ([]:List (Int×Bool)) [] ⟨J,h⟩) (bu J)
    ·obtain⟨hx,h⟩:=h
     refine aC<|aA<|zo J (gP J J)<|ax<|af<|bF (ht J) (d5 hx)<|bt ?_;refine ac (ac (aN ?_));refine aw<|aA<|zo rfl (iO)<|ax<|av<|bb ?_;cases so h;exact ba J J
    ·obtain⟨hx,h⟩:=h
     refine aC<|aA<|zo J (gP J J)<|ax<|af<|bE (ht J) (dZ hx)<|fO<|af<|aB<|aA<|aJ J<|bN J<|ax<|aA<|zo J (bH mV J J)<|aJ J<|bT h fun r4 q_r4 h=>zo J (aL Wj (SE _ _ q_r4) ⟨(ht J),(ht J),aV⟩) ?_;refine aJ J<|zo J (mA J J)<|zo J (mA J J)<|bN J<|bN J<|ax<|aA<|zo J (bH mV J J)<|aJ J<|bT h fun r5 q_r5 h=>zo J (aL Wi (Sw _ _ _ q_r5) ⟨(ht J),(ht J),hI,aV⟩)<|aJ J<|zo J (mA J J)<|zo J (mA J J)<|bN J<|bN J<|ax<|af<|aA<|aJ J ?_;refine zo J (H8 J)<|aJ J<|dQ J J (fun hg=>dw J)<|dQ J J (fun hg=>fE (bB J hg) hI)<|zo J (ua J J)<|ax<|eE h J (fun h=>?_) (fun h=>?_)
     ·refine aA<|zo J (iO)<|ax<|av ?_;refine aa (aF (aa (aa (aF (aa ?_)))));refine bb ?_;cases so h;exact ba J J
     ·refine fO<|af<|aA<|aJ J<|zo J (cQ lj jH J J)<|zo J (bH tA J J)<|zo J (lx rZ J)<|zo J (ib (ht J) hI)<|zo J (cO (ht J) (ht J))<|ax<|eE h J (fun h=>?_) (fun h=>?_)
      ·refine aA<|aJ J<|zo J (mU J)<|aJ J<|cP J J (fun hg=>dw J)<|cP J J (fun hg=>cA d8 (bB J hg))<|cP J J (fun hg=>cO (bB J hg) hI)<|zo J (r0 J J)<|aJ J<|bT h fun t1 q_t1 h=>cP J J (fun hg=>dw J) ?_
       obtain⟨e1,h1t1,h0t1⟩:=og q_t1
       have q_e1g:=fun hb=>(h1t1 hb).1
       refine cP J J (fun hg=>aO d8 ce J (bB J hg) hI (q_e1g hg))<|cP J J (fun hg=>bD ce J J (bB J hg))<|cP J J (fun hg=>cO (bB J hg) hI)<|zo J (fe (ht J) (fun hb=>(bB J hb)) (fun hb=>(h1t1 hb).2) h0t1)<|aJ J<|cP J J (fun hg=>dw J)<|cP J J (fun hg=>Pc Tryz.underlying39 (.head _) (bB J hg))<|cP J J (fun hg=>dw J)<|cP J J (fun hg=>lT (bB J hg) (bB J hg))<|zo J (r0 J J)<|bN J<|ax<|av ?_;refine aa (aF (aa (aa (aF (aa ?_)))));refine bb ?_;cases so h;exact ba J J
      ·refine fO<|af<|aA<|aJ J<|aJ J<|zo J (lT (ht J) (ht J))<|aJ J<|dQ J J (fun hg=>dw J)<|dQ J J (fun hg=>cA d8 (bB J hg))<|dQ J J (fun hg=>fE (bB J hg) hI)<|dQ J J (fun hg=>bJ (bB J hg))<|j4 J J J J (fun hg=>dw J)<|j4 J J J J (fun hg=>cA d8 (bB J hg))<|j4 J J J J (fun hg=>fE (bB J hg) hI)<|dQ J J (fun hg=>pq (bB J hg) (fun hb=>(bB J (Dl hg hb))))<|zo J (ua J J)<|ax<|eE h J (fun h=>?_) (fun h=>?_)
       ·refine aA<|zo J (iO)<|ax<|av ?_;refine aa (aF (aa (aa (aF (aa ?_)))));refine bb ?_;cases so h;exact ba J J
       ·refine fO<|am<|aJ J<|aJ J<|Qu (γ:=fun y:Bool=>gX y) Tryz.underlying39 (iS pU) (ht J) (uE (ht J)) hB fun os1=>aR<|an<|aw<|am<|zo rfl (nF (dv hx hN) rfl)<|aJ rfl<|aR ?_;exact bj (aW (ih (i+1) (dM read r4.1 true) os1 ⟨du hx,h⟩) (bu J))

end Go.Proofs.YtnmjbolollcokaaGreatDoor

