/- cR of this claim: P5. -/
import Derived.Test.YtnmjbolollcokaaGreatDoorRcT
import Derived.Test.YtnmjbolollcokaaGreatDoorRcP4
set_option linter.all false
namespace Go.Proofs.YtnmjbolollcokaaGreatDoor
open Go
set_option maxRecDepth 100000

theorem Sf(t:br){R:Bool}(h:jI t=some R):bA bc 58 [tD di t] (gX R):=by
 refine bA.of Tryz.func58 J J J fun w0 S0=>aA<|zo J (l9 J)<|zo J (iO)<|ax<|aA<|zo J (bH ud J J)<|bT h fun r q_r h=>zo J (aL V5 (Sd _ q_r) ⟨(ht J),aV⟩)<|zo J (H8 J)<|bN J<|ax<|av ?_;cases so h;exact ba J J

theorem Kr(s:(List br))(f:(br→Option Bool)){R:Int}(h:cX s f=some R):bA bc 100 [fZ (di) s,(iH bc yn n9 (fun(x:br)=>f x))] (cm R):=by
 refine bA.of Tryz.func100 J J J fun w0 S0=>aA<|zo J (gv)<|ax<|af<|aA<|aJ J<|zo J (lx zC J)<|zo J (bJ hI)<|ax<|aB<|bl (k:=6) J fun hN=>bU ?_;refine aW (fM (Z:=fun ls i=>(s.drop i=ls)∧bL f ls i=some R) (Of:=fun _ i=>[]) (Gf:=fun _ i=>[(0,fZ (di) s),(1,(iH bc yn n9 (fun(x:br)=>f x))),(7,jB s),(8,cm (i:Int))]) (fun i h=>?_) (fun e tl ih i h=>?_) s 0 ⟨J,h⟩) (bu J)
 ·obtain⟨hx,h⟩:=h
  refine aC<|aA<|zo J (gP J J)<|ax<|af<|bF (ht J) (d5 hx)<|bt ?_;refine ac (ac (aN ?_));refine aw<|aA<|zo rfl (gv)<|ax<|av ?_;cases so h;exact ba J J
 ·obtain⟨hx,h⟩:=h
  refine aC<|aA<|zo J (gP J J)<|ax<|af<|bE (ht J) (dZ hx)<|fO<|af<|aB<|aA<|aJ J<|bN J<|ax<|aA<|aJ J<|aJ J<|aJ J<|zo J (nY zC ud J J J (d4 hx)) ?_;refine zo J (bH ud J J)<|bT h fun r q_r h=>zo J (jV (args:=yn) (res:=If) (f:=(fun(x:br)=>f x)) (x:=((e):br)) (ht J) q_r ⟨(ht J),aV⟩)<|ax<|eE h J (fun h=>?_) (fun h=>?_)
  ·refine aA<|aJ J<|bN J<|ax<|av ?_;refine aF (aa (aa (aF (aa ?_))));cases so h;exact ba J J
  ·refine bO<|an<|aw<|am<|zo rfl (nF (dv hx hN) rfl)<|aJ rfl<|aR ?_;exact bj (aW (ih (i+1) ⟨du hx,h⟩) (bu J))

theorem Sc(s:(List br))(f:(br→Option Bool)){R:Bool}(h:eS s f=some R):bA bc 60 [fZ (di) s,(iH bc yn n9 (fun(x:br)=>f x))] (gX R):=by
 refine bA.of Tryz.func60 J J J fun w0 S0=>aA<|zo J (iO)<|ax<|aA<|aJ J<|aJ J<|bT h fun r q_r h=>zo J (aL QU (Kr _ _ q_r) ⟨(ht J),(ht J),aV⟩)<|zo J (fF (ht J) hI)<|bN J<|ax<|av ?_;cases so h;exact ba J J

theorem PV(of:(br→Option gV))(name:gV)(p:br){R:Bool}(h:eH of name p=some R):bA bc 177 [tD di p,bw (rT ((iH bc yn wP (fun(x:br)=>of x)))) (),bw rS name] (gX R):=by
 refine bA.of Tryz.func177 J J J fun w0 S0=>aA<|zo J (l9 J)<|zo J (iO)<|ax<|af<|bT h fun r q_r h=>?_
 refine iq (ts:=[_,_,_,_,_,_]) mixed J J
  ⟨gK 1 J J J (yL Tt (ht J)),
  ⟨gK 3 J J J (bH ud J J),
  ⟨gL 5 0 6 1 J J J J (jV (args:=yn) (res:=wP) (f:=(fun(x:br)=>of x)) (x:=((p):br)) (ht J) q_r ⟨(ht J),aV⟩),
  ⟨gK 2 J J J (bH Io J J),
  ⟨gL 7 2 8 3 J J J J (Bu (ht J) (ht J)),
  ⟨dR 9 4 J J J (BQ J),
  aV⟩⟩⟩⟩⟩⟩ ?_
 refine aw<|av ?_;cases so h;exact ba J J

theorem Qi(l:(List br))(of:(br→Option gV))(name:gV){R:Int×Bool}(h:iU l of name=some R):bA bc 101 [fZ (di) l,(iH bc yn wP (fun(x:br)=>of x)),tD rS name] (tT [cm R.1,gX R.2]):=by
 refine bA.of Tryz.func101 J J J fun w0 S0=>aA<|zo J (Fj (ht J))<|zo J (l9 J)<|zo J (gv)<|zo J (iO)<|ax<|aA<|aJ J<|zo J ((show bW _ _ _ _ ((iH bc yn n9 (fun(x:br)=>(eH of name) x)))from qg (cts:=[bw (rT ((iH bc yn wP (fun(x:br)=>of x)))) (),bw rS name]) (caps:=[.tmp 4,.tmp 5]) UG ⟨(ht J),(ht J),aV⟩ (fun x y h=>PV _ _ _ h)))<|bT h fun r q_r h=>zo J (aL QU (Kr _ _ q_r) ⟨(ht J),(ht J),aV⟩)<|bN J<|ax<|aA<|aJ J<|zo J (Fh (ht J) hI)<|aJ J<|zo J (fF (ht J) hI) ?_;refine bN J<|bN J<|ax<|av ?_;cases so h;exact df J J J

theorem Sb(l:(List br))(of:(br→Option gV)){R:Bool}(h:lq l of=some R):bA bc 61 [fZ (di) l,(iH bc yn wP (fun(x:br)=>of x))] (gX R):=by
 refine bA.of Tryz.func61 J J J fun w0 S0=>aA<|zo J (iO)<|ax<|af<|aA<|aJ J<|zo J (lx zC J)<|zo J (bJ hI)<|ax<|aB<|bl (k:=9) J fun hN=>bU ?_;refine aW (fM (Z:=fun ls i=>(l.drop i=ls)∧fK l of ls i=some R) (Of:=fun _ i=>[]) (Gf:=fun _ i=>[(0,fZ (di) l),(1,(iH bc yn wP (fun(x:br)=>of x))),(9,fZ (di) l),(10,jB l),(11,cm (i:Int))]) (fun i h=>?_) (fun e tl ih i h=>?_) l 0 ⟨J,h⟩) (bu J)
 ·obtain⟨hx,h⟩:=h
  refine aC<|aA<|zo J (gP J J)<|ax<|af<|bF (ht J) (d5 hx)<|bt ?_;refine ac (ac (aN ?_));refine aw<|aA<|zo rfl (iO)<|ax<|av ?_;cases so h;exact ba J J
 ·obtain⟨hx,h⟩:=h
  refine aC<|aA<|zo J (gP J J)<|ax<|af<|bE (ht J) (dZ hx)<|fO<|af<|aB<|aA<|aJ J<|zo J (nY zC ud J J J (d4 hx))<|zo J (bH ud J J)<|bh (r:=di) (x:=(⟨[],[],[]⟩:br)) ud (fun _=>ym _) J fun b=>bN J<|ap ud J aj J (ht J) (ht J)<|bf 6 J<|ax<|af ?_;refine am<|aJ J<|aJ J<|aJ J<|zo J (bH ud J J)<|bT h fun r q_r h=>zo J (jV (args:=yn) (res:=wP) (f:=(fun(x:br)=>of x)) (x:=((e):br)) (ht J) q_r ⟨(ht J),aV⟩)<|bT h fun r1 q_r1 h=>zo J (aL Vg (Qi _ _ _ q_r1) ⟨(ht J),(ht J),(ht J),aV⟩)<|aJ J<|zo J (mA J J)<|zo J (mA J J)<|bN J<|bN J<|ax<|aA<|aJ J<|aJ J<|zo J (fE (ht J) (ht J))<|aJ J<|bT h fun t q_t h=>dQ J J (fun hg=>dw J) ?_;refine dQ J J (fun hg=>bH ud J J) ?_
  obtain⟨r2,h1t,h0t⟩:=og q_t
  have q_r2g:=fun hb=>(h1t hb).1
  refine dQ J J (fun hg=>jV (args:=yn) (res:=wP) (f:=(fun(x:br)=>of x)) (x:=((e):br)) (bB J hg) (q_r2g hg) ⟨(bB J hg),aV⟩) ?_
  obtain⟨r3,h1t⟩:=SZ (fun hb=>(h1t hb).2)
  have q_r3g:=fun hb=>(h1t hb).1
  refine dQ J J (fun hg=>aL SN (Jg _ (q_r3g hg)) ⟨(bB J hg),aV⟩)<|dQ J J (fun hg=>gj (bB J hg))<|zo J (gT (ht J) (fun hb=>(bB J (vN hb))) (fun hb=>(h1t hb).2) h0t)<|ax<|eE h J (fun h=>?_) (fun h=>?_)
  ·refine aA<|zo J (iO)<|ax<|av ?_;refine aF (aa (aa (aF (aa ?_))));cases so h;exact ba J J
  ·refine bO<|an<|aw<|am<|zo rfl (nF (dv hx hN) rfl)<|aJ rfl<|aR ?_;exact bj (aW (ih (i+1) ⟨du hx,h⟩) (bu J))

theorem Sa(t:br){R:gV}(h:eQ t=some R):bA bc 62 [tD di t] (tD rS R):=by
 refine bA.of Tryz.func62 J J J fun w0 S0=>aA<|zo J (l9 J)<|zo J (aS hS)<|ax<|aA<|zo J (cQ Je xP J J)<|zo J (bH Io J J)<|bN J<|ax<|av ?_;cases so h;exact ba J J

theorem Sn(c:bG){R:Int}(h:pT c=some R):bA bc 32 [tD eh c] (cm R):=by
 refine bA.of Tryz.func32 J J J fun w0 S0=>aA<|zo J (l9 J)<|zo J (gv)<|ax<|aA<|zo J (aS (show aK _ _ _ ((iH bc yn n9 (fun(x:br)=>jI x)))from(RS V6 fun x y h=>Sf _ h)))<|ax<|af<|aA<|zo J (cQ vZ j3 J J)<|zo J (bH Gs J J)<|zo J (lx zC J)<|zo J (gU (ht J) hI)<|aJ J<|bT h fun t q_t h=>dQ J J (fun hg=>cQ vZ j3 J J)<|dQ J J (fun hg=>bD Gs J J (bB J hg))<|dQ J J (fun hg=>dw J) ?_
 obtain⟨r,h1t,h0t⟩:=og q_t
 have q_rg:=fun hb=>(h1t hb).1
 refine dQ J J (fun hg=>aL V4 (Sc _ _ (q_rg hg)) ⟨(bB J hg),(bB J hg),aV⟩)<|zo J (gT (ht J) (fun hb=>(bB J (vN hb))) (fun hb=>(h1t hb).2) h0t)<|aJ J<|bT h fun t1 q_t1 h=>dQ J J (fun hg=>cQ vZ j3 J J)<|dQ J J (fun hg=>bD Gs J J (bB J hg)) ?_
 obtain⟨r1,h1t1,h0t1⟩:=og q_t1
 have q_r1g:=fun hb=>(h1t1 hb).1
 refine dQ J J (fun hg=>aL V3 (Sb _ _ (q_r1g hg)) ⟨(bB J hg),(RS V2 fun x y h=>Sa _ h),aV⟩)<|dQ J J (fun hg=>gj (bB J hg))<|zo J (gT (ht J) (fun hb=>(bB J (vN hb))) (fun hb=>(h1t1 hb).2) h0t1)<|ax<|eE h J (fun h=>?_) (fun h=>?_)
 ·refine aA<|zo J (gv)<|ax<|av<|aa ?_;cases so h;exact ba J J
 ·refine fO<|aA<|zo J (gv)<|ax<|av ?_;cases so h;exact ba J J

theorem Jh(s1:(List Int))(s2:(List Int)){R:Bool}(h:ed s1 s2=some R):bA bc 63 [fP s1,fP s2] (gX R):=by
 refine bA.of Tryz.func63 J J J fun w0 S0=>aA<|zo J (iO)<|ax<|af<|aA<|aJ J<|zo J (lx d8 J)<|aJ J<|zo J (lx d8 J)<|zo J (fE (ht J) (ht J))<|ax<|eE h J (fun h=>?_) (fun h=>?_)
 ·refine aA<|zo J (iO)<|ax<|av<|aa ?_;cases so h;exact ba J J
 ·refine fO<|af<|aA<|aJ J<|zo J (lx d8 J)<|zo J (bJ hI)<|ax<|aB<|bl (k:=11) J fun hN=>bU ?_;refine aW (fM (Z:=fun ls i=>(s1.drop i=ls)∧eT s2 ls i=some R) (Of:=fun _ i=>[]) (Gf:=fun _ i=>[(0,fP s1),(1,fP s2),(12,jB s1),(13,cm (i:Int))]) (fun i h=>?_) (fun e tl ih i h=>?_) s1 0 ⟨J,h⟩) (bu J)
  ·obtain⟨hx,h⟩:=h
   refine aC<|aA<|zo J (gP J J)<|ax<|af<|bF (ht J) (d5 hx)<|bt ?_;refine ac (ac (aN ?_));refine aw<|aA<|zo rfl (iO)<|ax<|av ?_;cases so h;exact ba J J
  ·obtain⟨hx,h⟩:=h
   refine aC<|aA<|zo J (gP J J)<|ax<|af<|bE (ht J) (dZ hx)<|fO<|af<|aB<|aA<|aJ J<|bN J<|ax<|af<|bT h fun e1 q_e1 h=>?_
   refine iq (ts:=[_,_,_,_,_,_,_,_,_]) mixed J J
    ⟨gK 0 J J J (dw J),
    ⟨gK 5 J J J (dw J),
    ⟨gL 16 0 17 1 J J J J (nY d8 ce J J J (d4 hx)),
    ⟨dR 18 2 J J J (bH ce J J),
    ⟨gK 1 J J J (dw J),
    ⟨gK 5 J J J (dw J),
    ⟨gL 20 4 21 5 J J J J (nY d8 ce J J J q_e1),
    ⟨dR 22 6 J J J (bH ce J J),
    ⟨gL 19 3 23 7 J J J J (fE (ht J) (ht J)),
    aV⟩⟩⟩⟩⟩⟩⟩⟩⟩ ?_
   refine aw<|eE h rfl (fun h=>?_) (fun h=>?_)
   ·refine aA<|zo J (iO)<|ax<|av ?_;refine aF (aa (aa (aF (aa ?_))));cases so h;exact ba J J
   ·refine bO<|an<|aw<|am<|zo rfl (nF (dv hx hN) rfl)<|aJ rfl<|aR ?_;exact bj (aW (ih (i+1) ⟨du hx,h⟩) (bu J))

theorem Sm(l:bK)(c:bG){R:Bool}(h:xF l c=some R):bA bc 33 [tD cH l,tD eh c] (gX R):=by
 refine bA.of Tryz.func33 J J J fun w0 S0=>aA<|zo J (l9 J)<|zo J (l9 J)<|zo J (iO)<|ax<|af<|aA<|zo J (cQ pz js J J)<|zo J (bH pe J J)<|zo J (lx ly J)<|zo J (bJ hI)<|ax<|aB<|bl (k:=11) J fun hN=>bU ?_;refine aW (fM (Z:=fun ls i=>(l.Nodes.drop i=ls)∧i7 c ls=some R) (Of:=fun _ i=>[]) (Gf:=fun _ i=>[(3,bw eh c),(11,fZ (ai) l.Nodes),(12,jB l.Nodes),(13,cm (i:Int))]) (fun i h=>?_) (fun e tl ih i h=>?_) l.Nodes 0 ⟨J,h⟩) (bu J)
 ·obtain⟨hx,h⟩:=h
  refine aC<|aA<|zo J (gP J J)<|ax<|af<|bF (ht J) (d5 hx)<|bt ?_;refine ac (ac (aN ?_));refine aw<|aA<|zo rfl (iO)<|ax<|av ?_;cases so h;exact ba J J
 ·obtain⟨hx,h⟩:=h
  refine aC<|aA<|zo J (gP J J)<|ax<|af<|bE (ht J) (dZ hx)<|fO<|af ?_;refine EG (Z:=pP (i7 c tl)=some R) (Of:=[]) (Gf:=[(3,bw eh c),(11,fZ (ai) l.Nodes),(12,jB l.Nodes),(13,cm (i:Int))]) (fun h=>?_) (fun K=>?_)
  ·skip
   refine aw<|am<|zo rfl (nF (dv hx hN) rfl)<|aJ rfl<|aR ?_;exact bj (aW (ih (i+1) ⟨du hx,h⟩) (bu J))
  ·skip
   refine aA<|zo J (nY ly dg J J J (d4 hx))<|zo J (bH dg J J)<|bh (r:=ai) (x:=BN) dg (fun _=>kD _) J fun b=>ap dg J aj J (ht J) (ht J)<|bf 6 J<|ax<|af<|aA<|zo J (cQ vY nw J J)<|zo J (bH ce J J)<|zo J (H8 J)<|ax<|eE h J (fun h=>?_) (fun h=>?_)
   ·refine bt ?_;refine ac (aN ?_);exact cE (K h) (bu J)
   ·refine fO<|af<|aA<|zo J (cQ vX nv J J)<|zo J (bH ce J J)<|zo J (cQ vZ j3 J J)<|zo J (bH Gs J J)<|zo J (lx zC J)<|zo J (fF (ht J) (ht J))<|ax<|eE h J (fun h=>?_) (fun h=>?_)
    ·refine aA<|zo J (iO)<|ax<|av ?_;refine aa (aF (aa (aa (aF (aa ?_)))));cases so h;exact ba J J
    ·refine fO<|aA<|cj false cn 3<|zo J (aS u7)<|ax<|af<|aA<|zo J (cQ vZ j3 J J)<|zo J (bH Gs J J)<|zo J (cQ vX nv J J)<|zo J (bH ce J J)<|bT h fun e1 q_e1 h=>zo J (nY zC ud J J J q_e1)<|zo J (cQ vW mp J J)<|zo J (bH Gr J J)<|zo J (lx vd J)<|zo J (bJ hI)<|ax<|aB ?_;refine bl (k:=32) J fun hN1=>bU ?_;refine aW (oP (Z:=fun ls1 i1 kinds l1 c1=>(e1.Columns.drop i1=ls1)∧lM (i7 c tl) e ls1 kinds=some R) (Of:=fun _ i1 kinds l1 c1=>[gu cn 3 l1 c1 kinds]) (Gf:=fun _ i1 kinds l1 c1=>[(3,bw eh c),(6,bw ai e),(7,rU l1 c1 kinds),(11,fZ (ai) l.Nodes),(12,jB l.Nodes),(13,cm (i:Int)),(32,fZ (dk) e1.Columns),(33,jB e1.Columns),(34,cm (i1:Int))]) (fun i1 kinds l1 c1 h=>?_) (fun e2 tl1 ih1 i1 kinds l1 c1 h=>?_) e1.Columns 0 ra none 0 ⟨J,h⟩) (bu J)
     ·obtain⟨hx1,h⟩:=h
      refine aC<|aA<|zo J (gP J J)<|ax<|af<|bF (ht J) (d5 hx1)<|bt ?_;refine ac (ac (aN ?_));refine aw<|aA<|aJ rfl<|zo rfl (cQ tf mq rfl rfl)<|zo rfl (bH cS rfl rfl)<|q5<|we 7 rfl<|we 44 rfl<|bT h fun r q_r h=>zo J (aL SP (Jh _ _ q_r) ⟨(ma (ht J)),(ht J),aV⟩)<|zo J (gj (ht J))<|ax<|eE h J (fun h=>?_) (fun h=>?_)
      ·refine aA<|zo J (iO)<|ax<|av ?_;refine aF (aa (aa (aF (aa ?_))));refine bb ?_;cases so h;exact ba J J
      ·refine bO<|an<|bb ?_;exact cE (K h) (bu J)
     ·obtain⟨hx1,h⟩:=h
      refine aC<|aA<|zo J (gP J J)<|ax<|af<|bE (ht J) (dZ hx1)<|fO<|af<|aB<|aA<|zo J (nY vd pY J J J (d4 hx1))<|zo J (bH pY J J)<|bh (r:=dk) (x:=OO) pY (fun _=>o6 _) J fun b1=>ap pY J aj J (ht J) (ht J)<|bf 9 J<|ax<|am<|aJ J<|zo J (cQ NL AN J J) ?_;refine zo J (bH ce J J)<|zo J (aQ (r:=cn) (ys:=[e2.Kind]) (xs:=[.tmp 40]) d8 ce J J J J J ⟨(ht J),aV⟩)<|bT h fun kinds1 q_kinds1 h=>dJ ce J J J J d8 J J (ht J) (ht J) q_kinds1 fun l2 c2=>bN J<|aR<|an<|aw<|am<|zo rfl (nF (dv hx1 hN1) rfl)<|aJ rfl<|aR ?_;exact bj (aW (ih1 (i1+1) kinds1 l2 c2 ⟨du hx1,h⟩) (bu J))

theorem N3(s:(List kT)){R:(List kT)}(h:dz s=some R):ja bc 102 [fZ (ke) s] false ke 173 R:=by
 refine ja.of Tryz.func102 J J J fun w0 S0=>aA<|cj false ke 173<|zo J (aS u7)<|ax<|af<|aA<|aJ J<|tR yl (ht J) J fun isnil hisnil=>ax<|oS (ht J) (fun hc=>?_) (fun hc=>?_)
 ·have hx:=hisnil hc
  have h:some ([]:List kT)=some R:=by simpa [dz,iC,hx] using h
  refine aA<|cj false ke 173<|zo J (aS u7)<|ax<|av<|aa ?_;cases so h;exact ir J J
 ·refine fO<|aA<|kY (r:=ke) (ys:=([]:List kT)) (xs:=[]) yl JT J J J J J trivial J fun l c=>aJ J<|bT h fun x q_x h=>dJ JT J J J J yl J J (ht J) (ht J) q_x fun l1 c1=>bN J<|ax<|av ?_;cases so h;exact ir J J
theorem Qh(s:(List kT)){R:(List kT)}(h:dz s=some R):bA bc 102 [fZ (ke) s] (fZ (ke) R):=(N3 _ h).spec

theorem CC(s:(List aU)){R:(List aU)}(h:bC s=some R):ja bc 103 [fZ (aY) s] false aY 130 R:=by
 refine ja.of Tryz.func103 J J J fun w0 S0=>aA<|cj false aY 130<|zo J (aS u7)<|ax<|af<|aA<|aJ J<|tR l8 (ht J) J fun isnil hisnil=>ax<|oS (ht J) (fun hc=>?_) (fun hc=>?_)
 ·have hx:=hisnil hc
  have h:some ([]:List aU)=some R:=by simpa [bC,iC,hx] using h
  refine aA<|cj false aY 130<|zo J (aS u7)<|ax<|av<|aa ?_;cases so h;exact ir J J
 ·refine fO<|aA<|kY (r:=aY) (ys:=([]:List aU)) (xs:=[]) l8 dS J J J J J trivial J fun l c=>aJ J<|bT h fun x q_x h=>dJ dS J J J J l8 J J (ht J) (ht J) q_x fun l1 c1=>bN J<|ax<|av ?_;cases so h;exact ir J J
theorem Kq(s:(List aU)){R:(List aU)}(h:bC s=some R):bA bc 103 [fZ (aY) s] (fZ (aY) R):=(CC _ h).spec

theorem N2(s:(List gF)){R:(List gF)}(h:ew s=some R):ja bc 104 [fZ (dW) s] false dW 78 R:=by
 refine ja.of Tryz.func104 J J J fun w0 S0=>aA<|cj false dW 78<|zo J (aS u7)<|ax<|af<|aA<|aJ J<|tR rX (ht J) J fun isnil hisnil=>ax<|oS (ht J) (fun hc=>?_) (fun hc=>?_)
 ·have hx:=hisnil hc
  have h:some Mt=some R:=by simpa [ew,iC,hx] using h
  refine aA<|cj false dW 78<|zo J (aS u7)<|ax<|av<|aa ?_;cases so h;exact ir J J
 ·refine fO<|aA<|kY (r:=dW) (ys:=Mt) (xs:=[]) rX pZ J J J J J trivial J fun l c=>aJ J<|bT h fun x q_x h=>dJ pZ J J J J rX J J (ht J) (ht J) q_x fun l1 c1=>bN J<|ax<|av ?_;cases so h;exact ir J J
theorem N1(s:(List aT)){R:(List aT)}(h:dU s=some R):ja bc 105 [fZ (bz) s] false bz 67 R:=by
 refine ja.of Tryz.func105 J J J fun w0 S0=>aA<|cj false bz 67<|zo J (aS u7)<|ax<|af<|aA<|aJ J<|tR rY (ht J) J fun isnil hisnil=>ax<|oS (ht J) (fun hc=>?_) (fun hc=>?_)
 ·have hx:=hisnil hc
  have h:some ([]:List aT)=some R:=by simpa [dU,iC,hx] using h
  refine aA<|cj false bz 67<|zo J (aS u7)<|ax<|av<|aa ?_;cases so h;exact ir J J
 ·refine fO<|aA<|kY (r:=bz) (ys:=([]:List aT)) (xs:=[]) rY iG J J J J J trivial J fun l c=>aJ J<|bT h fun x q_x h=>dJ iG J J J J rY J J (ht J) (ht J) q_x fun l1 c1=>bN J<|ax<|av ?_;cases so h;exact ir J J
theorem R9(n:M)(by1:Int){R:M}(h:qP n by1=some R):bA bc 64 [tD ai n,cm by1] (tD ai R):=by
 refine bA.of Tryz.func64 J J J fun w0 S0=>aA<|sO (ht J) J fun b=>bh (r:=ai) (x:=BN) dg (fun _=>kD _) J fun b1=>ax ?_;refine jK (Z:=fun n1=>ni by1 n1=some R) (Of:=fun n1=>[bx ai 72 b n1,bx ai 72 b1 BN]) (Gf:=fun n1=>[(1,cm by1),(2,tV (aE b 0)),(4,tV (aE b1 0))]) (fun n1 h=>?_) (fun K=>?_)
 ·skip
  refine jK (Z:=fun n2=>lE n2=some R) (Of:=fun n2=>[bx ai 72 b n2,bx ai 72 b1 BN]) (Gf:=fun n2=>[(2,tV (aE b 0)),(4,tV (aE b1 0))]) (fun n2 h=>?_) (fun K1=>?_)
  ·skip
   refine af<|bT h fun r q_r h=>bT h fun r1 q_r1 h=>bT h fun r2 q_r2 h=>?_
   refine lH 10 (ts:=[tV (aE b 4),fP n2.Kinds,fP r,tV (aE b 7),fP n2.Keys,fP r1,tV (aE b 10),fZ (ke) n2.Order,fZ (ke) r2,tV (aE b 4)]) mixed J J J
    ⟨gK 2 J J J (fX 4 tf J J J),
    ⟨dR 23 0 J J J (aX cS J J mq (.head _) (ht J)),
    ⟨dR 24 1 J J J (aL HM (FI _ q_r) ⟨(ht J),aV⟩),
    ⟨gK 2 J J J (fX 7 qy J J J),
    ⟨dR 26 3 J J J (aX cS J J ko (.head _) (ht J)),
    ⟨dR 27 4 J J J (aL HM (FI _ q_r1) ⟨(ht J),aV⟩),
    ⟨gK 2 J J J (fX 10 uN J J J),
    ⟨dR 29 6 J J J (aX Ip J J qn (.head _) (ht J)),
    ⟨dR 30 7 J J J (aL Vf (Qh _ q_r2) ⟨(ht J),aV⟩),
    ⟨gK 2 J J J (fX 4 tf J J J),
    aV⟩⟩⟩⟩⟩⟩⟩⟩⟩⟩ ?_
   refine ap cS J uj J (ht J) (ht J)<|zo J (fX 7 qy J J J)<|ap cS J B7 J (ht J) (ht J)<|zo J (fX 10 uN J J J)<|ap Ip J Aw J (ht J) (ht J)<|ax<|aA<|zo J (fX 6 uM J J J)<|zo J (fX 6 fW J J J)<|zo J (aX mR J J (ry nu db) (.head _) (ht J))<|bT h fun r3 q_r3 h=>lF Kw (CC _ q_r3) ⟨(ht J),aV⟩ J fun l c=>zo J (fX 6 uM J J J)<|zo J (fX 6 fW J J J)<|q5<|we 38 J<|cb<|ap mR J (wn nu xw zM) J (ht J) (ma (ht J))<|ax<|af<|bT h fun r4 q_r4 h=>?_
   obtain⟨r5,q_r5,h⟩:=bs h
   refine j6 7 [tc (tV (aE b 8)),tc (fZ (dW) (({(M.mk n2.Op n2.A n2.B n2.Table r n2.Left n2.Cond r1 n2.Aggs n2.Items r2 n2.Limit)with Cond:=({(M.mk n2.Op n2.A n2.B n2.Table r n2.Left n2.Cond r1 n2.Aggs n2.Items r2 n2.Limit).Cond with Nodes:=r3}:aT)}:M).Aggs)),([2],fun s=>tV (aD ((s.getD 0 o7).h 0).1 ((s.getD 0 o7).h 0).2 r4.length)),tc (tV (aE b 9)),tc (fZ (bz) (({(M.mk n2.Op n2.A n2.B n2.Table r n2.Left n2.Cond r1 n2.Aggs n2.Items r2 n2.Limit)with Cond:=({(M.mk n2.Op n2.A n2.B n2.Table r n2.Left n2.Cond r1 n2.Aggs n2.Items r2 n2.Limit).Cond with Nodes:=r3}:aT)}:M).Items)),([5],fun s=>tV (aD ((s.getD 0 o7).h 0).1 ((s.getD 0 o7).h 0).2 r5.length)),tc (tV (aE b 8))] [false,false,true,false,false,true,false] [fun _=>[bx ai 72 b ({(M.mk n2.Op n2.A n2.B n2.Table r n2.Left n2.Cond r1 n2.Aggs n2.Items r2 n2.Limit)with Cond:=({(M.mk n2.Op n2.A n2.B n2.Table r n2.Left n2.Cond r1 n2.Aggs n2.Items r2 n2.Limit).Cond with Nodes:=r3}:aT)}:M),cv aY 130 l c r3,bx ai 72 b1 BN],fun sg=>[gu dW 78 ((sg 2).h 0).1 ((sg 2).h 0).2 r4,bx ai 72 b ({(M.mk n2.Op n2.A n2.B n2.Table r n2.Left n2.Cond r1 n2.Aggs n2.Items r2 n2.Limit)with Cond:=({(M.mk n2.Op n2.A n2.B n2.Table r n2.Left n2.Cond r1 n2.Aggs n2.Items r2 n2.Limit).Cond with Nodes:=r3}:aT)}:M),cv aY 130 l c r3,bx ai 72 b1 BN],fun sg=>[gu bz 67 ((sg 5).h 0).1 ((sg 5).h 0).2 r5,gu dW 78 ((sg 2).h 0).1 ((sg 2).h 0).2 r4,bx ai 72 b ({(M.mk n2.Op n2.A n2.B n2.Table r n2.Left n2.Cond r1 n2.Aggs n2.Items r2 n2.Limit)with Cond:=({(M.mk n2.Op n2.A n2.B n2.Table r n2.Left n2.Cond r1 n2.Aggs n2.Items r2 n2.Limit).Cond with Nodes:=r3}:aT)}:M),cv aY 130 l c r3,bx ai 72 b1 BN]] J mixed J J J J J
    ⟨⟨[⟨2,fun _=>tV (aE b 0),none⟩],_,0,0,J,⟨(fun _=>J),aV⟩,J,J,J,J,J,fun _ sg _ _=>ae J (fX 8 mT J J J)⟩,
    ⟨⟨[⟨41,fun _=>tV (aE b 8),some 0⟩],_,0,0,J,⟨(fun _=>J),aV⟩,J,J,J,J,J,yo (fun sg=>ae J (aX wQ J J li (.head _) (ht J)))⟩,
    ⟨⟨[⟨42,fun _=>tD (eU dW) (({(M.mk n2.Op n2.A n2.B n2.Table r n2.Left n2.Cond r1 n2.Aggs n2.Items r2 n2.Limit)with Cond:=({(M.mk n2.Op n2.A n2.B n2.Table r n2.Left n2.Cond r1 n2.Aggs n2.Items r2 n2.Limit).Cond with Nodes:=r3}:aT)}:M).Aggs),some 1⟩],_,J,⟨(fun _=>J),aV⟩,J,J,J,fun sg=>cy J (Et (xs:=[.tmp 42]) (ts:=[tD (eU dW) (({(M.mk n2.Op n2.A n2.B n2.Table r n2.Left n2.Cond r1 n2.Aggs n2.Items r2 n2.Limit)with Cond:=({(M.mk n2.Op n2.A n2.B n2.Table r n2.Left n2.Cond r1 n2.Aggs n2.Items r2 n2.Limit).Cond with Nodes:=r3}:aT)}:M).Aggs)]) Ve (N2 _ q_r4) ⟨(ht J),aV⟩)⟩,
    ⟨⟨[⟨2,fun _=>tV (aE b 0),none⟩],_,0,1,J,⟨(fun _=>J),aV⟩,J,J,J,J,J,fun _ sg _ _=>ae J (fX 9 oI J J J)⟩,
    ⟨⟨[⟨44,fun _=>tV (aE b 9),some 3⟩],_,0,1,J,⟨(fun _=>J),aV⟩,J,J,J,J,J,EP (fun sg=>ae J (aX xq J J km (.head _) (ht J))) (yo (fun sg=>ae J (aX xq J J km (.tail _ (.head _)) (ht J))))⟩,
    ⟨⟨[⟨45,fun _=>tD (eU bz) (({(M.mk n2.Op n2.A n2.B n2.Table r n2.Left n2.Cond r1 n2.Aggs n2.Items r2 n2.Limit)with Cond:=({(M.mk n2.Op n2.A n2.B n2.Table r n2.Left n2.Cond r1 n2.Aggs n2.Items r2 n2.Limit).Cond with Nodes:=r3}:aT)}:M).Items),some 4⟩],_,J,⟨(fun _=>J),aV⟩,J,J,J,fun sg=>cy J (Et (xs:=[.tmp 45]) (ts:=[tD (eU bz) (({(M.mk n2.Op n2.A n2.B n2.Table r n2.Left n2.Cond r1 n2.Aggs n2.Items r2 n2.Limit)with Cond:=({(M.mk n2.Op n2.A n2.B n2.Table r n2.Left n2.Cond r1 n2.Aggs n2.Items r2 n2.Limit).Cond with Nodes:=r3}:aT)}:M).Items)]) Vd (N1 _ q_r5) ⟨(ht J),aV⟩)⟩,
    ⟨⟨[⟨2,fun _=>tV (aE b 0),none⟩],_,1,2,J,⟨(fun _=>J),aV⟩,J,J,J,J,J,fun _ sg _ _=>ae J (fX 8 mT J J J)⟩,
    aV⟩⟩⟩⟩⟩⟩⟩ (fun sg=>?_)
   refine(show RG _ _ _ _ [gu bz 67 ((sg 5).h 0).1 ((sg 5).h 0).2 r5,gu dW 78 ((sg 2).h 0).1 ((sg 2).h 0).2 r4,bx ai 72 b ({(M.mk n2.Op n2.A n2.B n2.Table r n2.Left n2.Cond r1 n2.Aggs n2.Items r2 n2.Limit)with Cond:=({(M.mk n2.Op n2.A n2.B n2.Table r n2.Left n2.Cond r1 n2.Aggs n2.Items r2 n2.Limit).Cond with Nodes:=r3}:aT)}:M),cv aY 130 l c r3,bx ai 72 b1 BN] _ from ?_);refine eI<|lu wQ J (xu _ _) J (ht J) (OK (ht J))<|zo J (fX 9 oI J J J)<|lu xq J (uf _ _ _) J (ht J) (OK (ht J))<|ax<|af<|aA<|zo J (fX 8 mT J J J)<|zo J (mH wQ rA (.head _) J (ht J))<|zo J (hX rX (.tail _ (.tail _ (.head _))) (ht J))<|zo J (bJ hI)<|ax<|aB<|lw (.tail _ (.tail _ (.head _))) fun hN=>bU<|pD<|sP<|ip<|mN<|mN<|pD ?_;refine aW (nd (Z:=fun ls i n3=>(r4.drop i=ls)∧lD ls i n3=some R) (Of:=fun _ i n3=>[bx ai 72 b1 BN,bx jQ 72 b (mI n3 (aD ((sg 2).h 0).1 ((sg 2).h 0).2 n3.Aggs.length) (aD ((sg 5).h 0).1 ((sg 5).h 0).2 n3.Items.length)),gu dW 78 ((sg 2).h 0).1 ((sg 2).h 0).2 n3.Aggs,gu bz 67 ((sg 5).h 0).1 ((sg 5).h 0).2 n3.Items]) (Gf:=fun _ i n3=>[(2,tV (aE b 0)),(4,tV (aE b1 0)),(51,jB r4),(52,cm (i:Int))]) (fun i n3 h=>?_) (fun e tl ih i n3 h=>?_) r4 0 ({({({(M.mk n2.Op n2.A n2.B n2.Table r n2.Left n2.Cond r1 n2.Aggs n2.Items r2 n2.Limit)with Cond:=({(M.mk n2.Op n2.A n2.B n2.Table r n2.Left n2.Cond r1 n2.Aggs n2.Items r2 n2.Limit).Cond with Nodes:=r3}:aT)}:M)with Aggs:=r4}:M)with Items:=r5}:M) ⟨J,h⟩) (bu J)
   ·obtain⟨hx,h⟩:=h
    refine aC<|aA<|zo J (gP J J)<|ax<|af<|bF (ht J) (d5 hx)<|bt ?_;refine ac (ac (aN ?_));refine aw<|af<|aA<|zo rfl (fX 9 oI rfl rfl rfl)<|zo rfl (mH xq rz (.tail _ (.head _)) rfl (ht rfl))<|zo rfl (hX rY (.tail _ (.tail _ (.tail _ (.head _)))) (ht rfl))<|zo rfl (bJ hI)<|ax<|aB<|lw (.tail _ (.tail _ (.tail _ (.head _)))) fun hN1=>bU ?_;refine aW (nd (Z:=fun ls1 i1 n4=>(n3.Items.drop i1=ls1)∧lC ls1 i1 n4=some R) (Of:=fun _ i1 n4=>[bx ai 72 b1 BN,bx jQ 72 b (mI n4 (aD ((sg 2).h 0).1 ((sg 2).h 0).2 n4.Aggs.length) (aD ((sg 5).h 0).1 ((sg 5).h 0).2 n4.Items.length)),gu dW 78 ((sg 2).h 0).1 ((sg 2).h 0).2 n4.Aggs,gu bz 67 ((sg 5).h 0).1 ((sg 5).h 0).2 n4.Items]) (Gf:=fun _ i1 n4=>[(2,tV (aE b 0)),(4,tV (aE b1 0)),(72,jB n3.Items),(73,cm (i1:Int))]) (fun i1 n4 h=>?_) (fun e1 tl1 ih1 i1 n4 h=>?_) n3.Items 0 n3 ⟨J,h⟩) (bu J)
    ·obtain⟨hx1,h⟩:=h
     refine aC<|aA<|zo J (gP J J)<|ax<|af<|bF (ht J) (d5 hx1)<|bt ?_;refine ac (ac (aN ?_));refine aw<|aA<|eI<|q5<|dI<|q5<|zo rfl (rs (q:=ai) (y:=n4) dg J J J J (.tail _ (.tail _ (.tail _ (.head _)))) (fun _ _ _ ho h=>ze (wv ho (.tail _ (.head _))) (wv ho (.head _)) h) (ht J))<|eI<|ap dg J aj J (ht J) (ht J)<|bf 4 J<|ax<|av<|bb<|bb<|bb ?_;cases so h;exact lI J dg J J J
    ·obtain⟨hx1,h⟩:=h
     refine aC<|aA<|zo J (gP J J)<|ax<|af<|bE (ht J) (dZ hx1)<|fO<|af<|aB<|aA<|aJ J<|bN J<|ax<|bT h fun e2 q_e2 h=>bT h fun r6 q_r6 h=>?_
     refine lH 12 (ts:=[tV (aE b 9),tV (aD ((sg 5).h 0).1 ((sg 5).h 0).2 n4.Items.length),cm (i1:Int),tV (aE b 9),tV (aD ((sg 5).h 0).1 ((sg 5).h 0).2 n4.Items.length),cm (i1:Int),tV (mb ((sg 5).h 0).1 ((i1:Int).toNat*1+0)),tV (mb ((sg 5).h 0).1 ((i1:Int).toNat*1+0)),fZ (aY) e2.Nodes,fZ (aY) r6,tV (mb ((sg 5).h 0).1 ((i1:Int).toNat*1+0)),tV (mb ((sg 5).h 0).1 ((i1:Int).toNat*1+0))]) mixed J J J
      ⟨gK 2 J J J (fX 9 oI J J J),
      ⟨dR 76 0 J J J (mH xq rz (.tail _ (.head _)) J (ht J)),
      ⟨gK 6 J J J (dw J),
      ⟨gK 2 J J J (fX 9 oI J J J),
      ⟨dR 79 3 J J J (mH xq rz (.tail _ (.head _)) J (ht J)),
      ⟨gK 6 J J J (dw J),
      ⟨gL 80 4 81 5 J J J J (cF rY iG (.tail _ (.tail _ (.tail _ (.head _)))) (ht J) (ht J) q_e2),
      ⟨dR 82 6 J J J (fj (o:=(i1:Int).toNat*1+0) (n:=(i1:Int).toNat*1+0) fW J (.tail _ (.tail _ (.tail _ (.head _)))) q_e2 (ht J) J),
      ⟨dR 83 7 J J J (ge (r:=bz) (i:=(i1:Int)) (foff:=0) mR J J db J (.tail _ (.tail _ (.tail _ (.head _)))) q_e2 (ht J)),
      ⟨dR 84 8 J J J (aL Kw (Kq _ q_r6) ⟨(ht J),aV⟩),
      ⟨gL 77 1 78 2 J J J J (cF rY iG (.tail _ (.tail _ (.tail _ (.head _)))) (ht J) (ht J) q_e2),
      ⟨dR 86 10 J J J (fj (o:=(i1:Int).toNat*1+0) (n:=(i1:Int).toNat*1+0) fW J (.tail _ (.tail _ (.tail _ (.head _)))) q_e2 (ht J) J),
      aV⟩⟩⟩⟩⟩⟩⟩⟩⟩⟩⟩⟩ ?_
     refine dI<|bT h fun st q_st h=>mL mR J zM J q_e2 (so q_st) (ht J) (ht J)<|fI (g9 (so q_st)) 77 J<|fI (g9 (so q_st)) 80 J<|zp (O' :=[gu bz 67 ((sg 5).h 0).1 ((sg 5).h 0).2 st,bx ai 72 b1 BN,bx jQ 72 b (mI n4 (aD ((sg 2).h 0).1 ((sg 2).h 0).2 n4.Aggs.length) (aD ((sg 5).h 0).1 ((sg 5).h 0).2 st.length)),gu dW 78 ((sg 2).h 0).1 ((sg 2).h 0).2 n4.Aggs]) (by rw [g9 (so q_st)])<|aR<|an<|aw<|am<|zo rfl (nF (dv hx1 hN1) rfl)<|aJ rfl<|aR<|bo<|bo<|bo ?_;exact bj (aW (ih1 (i1+1) ({n4 with Items:=st}:M) ⟨du hx1,h⟩) (bu J))
   ·obtain⟨hx,h⟩:=h
    refine aC<|aA<|zo J (gP J J)<|ax<|af<|bE (ht J) (dZ hx)<|fO<|af<|aB<|aA<|aJ J<|bN J<|ax<|bT h fun e3 q_e3 h=>bT h fun r7 q_r7 h=>?_
    refine lH 14 (ts:=[tV (aE b 8),tV (aD ((sg 2).h 0).1 ((sg 2).h 0).2 n3.Aggs.length),cm (i:Int),tV (aE b 8),tV (aD ((sg 2).h 0).1 ((sg 2).h 0).2 n3.Aggs.length),cm (i:Int),tV (mb ((sg 2).h 0).1 ((i:Int).toNat*2+0)),tV (mb ((sg 2).h 0).1 ((i:Int).toNat*2+1)),tV (mb ((sg 2).h 0).1 ((i:Int).toNat*2+1)),fZ (aY) e3.Arg.Nodes,fZ (aY) r7,tV (mb ((sg 2).h 0).1 ((i:Int).toNat*2+0)),tV (mb ((sg 2).h 0).1 ((i:Int).toNat*2+1)),tV (mb ((sg 2).h 0).1 ((i:Int).toNat*2+1))]) mixed J J J
     ⟨gK 2 J J J (fX 8 mT J J J),
     ⟨dR 55 0 J J J (mH wQ rA (.tail _ (.head _)) J (ht J)),
     ⟨gK 5 J J J (dw J),
     ⟨gK 2 J J J (fX 8 mT J J J),
     ⟨dR 58 3 J J J (mH wQ rA (.tail _ (.head _)) J (ht J)),
     ⟨gK 5 J J J (dw J),
     ⟨gL 59 4 60 5 J J J J (cF rX pZ (.tail _ (.tail _ (.head _))) (ht J) (ht J) q_e3),
     ⟨dR 61 6 J J J (fj (o:=(i:Int).toNat*2+0) (n:=(i:Int).toNat*2+1) Cz J (.tail _ (.tail _ (.head _))) q_e3 (ht J) J),
     ⟨dR 62 7 J J J (fj (o:=(i:Int).toNat*2+1) (n:=(i:Int).toNat*2+1) fW J (.tail _ (.tail _ (.head _))) q_e3 (ht J) J),
     ⟨dR 63 8 J J J (ge (r:=dW) (i:=(i:Int)) (foff:=1) mR J J (ry vT db) J (.tail _ (.tail _ (.head _))) q_e3 (ht J)),
     ⟨dR 64 9 J J J (aL Kw (Kq _ q_r7) ⟨(ht J),aV⟩),
     ⟨gL 56 1 57 2 J J J J (cF rX pZ (.tail _ (.tail _ (.head _))) (ht J) (ht J) q_e3),
     ⟨dR 66 11 J J J (fj (o:=(i:Int).toNat*2+0) (n:=(i:Int).toNat*2+1) Cz J (.tail _ (.tail _ (.head _))) q_e3 (ht J) J),
     ⟨dR 67 12 J J J (fj (o:=(i:Int).toNat*2+1) (n:=(i:Int).toNat*2+1) fW J (.tail _ (.tail _ (.head _))) q_e3 (ht J) J),
     aV⟩⟩⟩⟩⟩⟩⟩⟩⟩⟩⟩⟩⟩⟩ ?_
    refine eI<|bT h fun st1 q_st1 h=>mL mR J (wn vT MP zM) J q_e3 (so q_st1) (ht J) (ht J)<|fI (g9 (so q_st1)) 56 J<|fI (g9 (so q_st1)) 59 J<|zp (O' :=[gu dW 78 ((sg 2).h 0).1 ((sg 2).h 0).2 st1,bx ai 72 b1 BN,bx jQ 72 b (mI n3 (aD ((sg 2).h 0).1 ((sg 2).h 0).2 st1.length) (aD ((sg 5).h 0).1 ((sg 5).h 0).2 n3.Items.length)),gu bz 67 ((sg 5).h 0).1 ((sg 5).h 0).2 n3.Items]) (by rw [g9 (so q_st1)])<|aR<|an<|aw<|am<|zo rfl (nF (dv hx hN) rfl)<|aJ rfl<|aR<|bo<|cu<|bo<|bo ?_;exact bj (aW (ih (i+1) ({n3 with Aggs:=st1}:M) ⟨du hx,h⟩) (bu J))
  ·skip
   refine aA<|zo J (fX 2 nz J J J)<|zo J (aX ce J J jt (.head _) (ht J))<|zo J (fF (ht J) hI)<|ax<|eE h J (fun h=>?_) (fun h=>?_)
   ·refine am<|zo J (fX 2 nz J J J)<|zo J (aX ce J J jt (.head _) (ht J))<|aJ J<|zo J (pt (ht J) (ht J))<|zo J (fX 2 nz J J J)<|ap ce J nq J (ht J) (ht J)<|aR ?_;exact cE (K1 (M.mk n1.Op n1.A (IntKind.i64.wrap (n1.B+by1)) n1.Table n1.Kinds n1.Left n1.Cond n1.Keys n1.Aggs n1.Items n1.Order n1.Limit) h) (bu J)
   ·refine bO ?_;exact cE (K1 n1 h) (bu J)
 ·skip
  refine aA<|zo J (fX 1 jv J J J)<|zo J (aX ce J J eo (.tail _ (.head _)) (ht J))<|zo J (fF (ht J) hI)<|ax<|eE h J (fun h=>?_) (fun h=>?_)
  ·refine am<|zo J (fX 1 jv J J J)<|zo J (aX ce J J eo (.tail _ (.head _)) (ht J))<|aJ J<|zo J (pt (ht J) (ht J))<|zo J (fX 1 jv J J J)<|cb<|ap ce J pg J (ht J) (ht J)<|aR ?_;exact cE (K (M.mk n.Op (IntKind.i64.wrap (n.A+by1)) n.B n.Table n.Kinds n.Left n.Cond n.Keys n.Aggs n.Items n.Order n.Limit) h) (bu J)
  ·refine bO<|cu ?_;exact cE (K n h) (bu J)

end Go.Proofs.YtnmjbolollcokaaGreatDoor

