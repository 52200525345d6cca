/- cR of this claim: P10. -/
import Derived.Test.YtnmjbolollcokaaGreatDoorRcT
import Derived.Test.YtnmjbolollcokaaGreatDoorRcP9
set_option linter.all false
namespace Go.Proofs.YtnmjbolollcokaaGreatDoor
open Go
set_option maxRecDepth 100000

theorem Jk(p:cC)(frag:Int)(nodes:Int){R:Int}(h:po p frag nodes=some R):bA bc 45 [tD bR p,cm frag,cm nodes] (cm R):=by
 refine bA.of Tryz.func45 J J J fun w0 S0=>aA<|zo J (l9 J)<|zo J (gv)<|ax<|af<|aA<|zo J (cQ lj jH J J)<|zo J (bH tA J J)<|zo J (lx rZ J)<|zo J (gU (ht J) hI)<|aJ J<|dQ J J (fun hg=>dw J)<|dQ J J (fun hg=>iA (bB J hg) hI)<|zo J (ua J J)<|aJ J<|dQ J J (fun hg=>dw J)<|dQ J J (fun hg=>cQ lj jH J J)<|dQ J J (fun hg=>bD tA J J (bB J hg))<|dQ J J (fun hg=>cA rZ (bB J hg))<|dQ J J (fun hg=>fF (bB J hg) (bB J hg)) ?_;refine zo J (ua J J)<|aJ J<|dQ J J (fun hg=>dw J)<|dQ J J (fun hg=>iA (bB J hg) hI)<|zo J (ua J J)<|aJ J<|dQ J J (fun hg=>dw J)<|dQ J J (fun hg=>gU (bB J hg) hI)<|zo J (ua J J)<|ax<|eE h J (fun h=>?_) (fun h=>?_)
 ·refine aA<|zo J (gv)<|ax<|av<|aa ?_;cases so h;exact ba J J
 ·refine fO<|aA<|zo J (gv)<|ax<|av ?_;cases so h;exact ba J J

theorem PT(p:cC)(from1:Int):xV bc 192 (fun(x:Int×Int)=>[cm x.1,cm x.2]) (fun _=>s6 p from1) [] [bw bR p,bw cn from1]:=by
 refine xV.of Tryz.func192 J J J fun Sg yld s R h I yv hy e he w0 S0 B hB=>?_
 replace h:s6 p from1 yld s=some R:=h
 refine aA<|zo J (cQ lj jH J J)<|zo J (bH tA J J)<|zo J (lx rZ J)<|zo J (bJ hI)<|ax<|aB<|bl (k:=9) J fun hN=>bU ?_;refine aW (oQ (Z:=fun ls i e1 s1=>(p.Frags.drop i=ls)∧I s1 e1∧jd from1 yld ls i s1=some R) (Of:=fun _ i e1 s1=>[e1]) (Gf:=fun _ i e1 s1=>[(0,tV yv),(2,bw cn from1),(9,fZ (aP) p.Frags),(10,jB p.Frags),(11,cm (i:Int))]) (fun i e1 s1 h=>?_) (fun e2 tl ih i e1 s1 h=>?_) p.Frags 0 e s ⟨J,⟨he,h⟩⟩) (bu J)
 ·obtain⟨hx,h⟩:=h
  obtain⟨he1,h⟩:=h
  refine aC<|aA<|zo J (gP J J)<|ax<|af<|bF (ht J) (d5 hx)<|bt ?_;refine ac (ac (aN ?_));cases so h;exact H7 J he1 hB trivial
 ·obtain⟨hx,h⟩:=h
  obtain⟨he1,h⟩:=h
  refine aC<|aA<|zo J (gP J J)<|ax<|af<|bE (ht J) (dZ hx)<|fO<|af<|aB<|aA<|aJ J<|zo J (nY rZ re J J J (d4 hx))<|zo J (bH re J J)<|bh (r:=aP) (x:=(⟨[],(0:Int),(0:Int),[]⟩:bk)) re (fun _=>Bp _) J fun b=>bN J<|ap re J aj J (ht J) (ht J)<|bf 5 J<|ax<|af ?_;refine am<|zo J (cQ FE wG J J)<|zo J (bH pe J J)<|zo J (lx ly J)<|zo J (bJ hI)<|ax<|aB<|bl (k:=17) J fun hN1=>bU ?_;refine aW (oQ (Z:=fun ls1 i1 e3 s2=>(e2.Nodes.drop i1=ls1)∧I s2 e3∧jb from1 yld (jd from1 yld tl) i ls1 i1 s2=some R) (Of:=fun _ i1 e3 s2=>[e3]) (Gf:=fun _ i1 e3 s2=>[(0,tV yv),(2,bw cn from1),(4,cm (i:Int)),(9,fZ (aP) p.Frags),(10,jB p.Frags),(11,cm (i:Int)),(17,fZ (ai) e2.Nodes),(18,jB e2.Nodes),(19,cm (i1:Int))]) (fun i1 e3 s2 h=>?_) (fun e4 tl1 ih1 i1 e3 s2 h=>?_) e2.Nodes 0 e1 s1 ⟨J,⟨he1,h⟩⟩) (bu J)
  ·obtain⟨hx1,h⟩:=h
   obtain⟨he2,h⟩:=h
   refine aC<|aA<|zo J (gP J J)<|ax<|af<|bF (ht J) (d5 hx1)<|bt ?_;refine ac (ac (aN ?_));refine an<|aw<|am<|zo rfl (nF (dv hx hN) rfl)<|aJ rfl<|aR ?_;exact bj (aW (ih (i+1) e3 s2 ⟨du hx,⟨he2,h⟩⟩) (bu J))
  ·obtain⟨hx1,h⟩:=h
   obtain⟨he2,h⟩:=h
   refine aC<|aA<|zo J (gP J J)<|ax<|af<|bE (ht J) (dZ hx1)<|fO<|af<|aB<|aA<|aJ J<|zo J (nY ly dg J J J (d4 hx1))<|zo J (bH dg J J)<|bh (r:=ai) (x:=BN) dg (fun _=>kD _) J fun b1=>bN J<|ap dg J aj J (ht J) (ht J)<|bf 7 J<|ax<|af ?_;refine am<|zo J (cQ vY nw J J)<|zo J (bH ce J J)<|zo J (mU J)<|aJ J<|cP J J (fun hg=>cQ vX nv J J)<|cP J J (fun hg=>bD ce J J (bB J hg))<|cP J J (fun hg=>bH ce J J)<|cP J J (fun hg=>cO (bB J hg) (bB J hg))<|zo J (r0 J J)<|aJ J ?_;refine Ov ((e4.Op==(9:Int))&&(e4.Table==from1)) (fun hg=>?_) (fun hg=>?_)
   ·have h:=ct h hg;refine HU J J J hg<|aJ J<|HU J J J hg<|aJ J<|HU J J J hg<|aJ J<|HU J J J hg<|bT h fun r q_r h=>CN hy he2 q_r (ht J) ⟨(ht J),(ht J),aV⟩ J fun e5 he3=>HU J J J hg<|zo J (gj (ht J))<|zo J (Lu (ht J) hg (ht J))<|ax<|eE h J (fun h=>?_) (fun h=>?_)
    ·refine av ?_;refine aF (aa (aa (aF (aF (aa (aa (aF ?_)))))));cases so h;exact F2 J he3 hB trivial
    ·refine bO<|an<|aw<|am<|zo rfl (nF (dv hx1 hN1) rfl)<|aJ rfl<|aR ?_;exact bj (aW (ih1 (i1+1) e5 r.2 ⟨du hx1,⟨he3,h⟩⟩) (bu J))
   ·have h:=cf h hg;refine CO J J J hg J<|CO J J J hg J<|CO J J J hg J<|CO J J J hg J<|CO J J J hg J<|zo J (Lv (ht J) hg hBc)<|ax<|oS (ht J) (fun hc=>?_) (fun hc=>?_)
    ·cases hc
    ·refine bO<|an<|aw<|am<|zo rfl (nF (dv hx1 hN1) rfl)<|aJ rfl<|aR ?_;exact bj (aW (ih1 (i1+1) e3 s2 ⟨du hx1,⟨he2,h⟩⟩) (bu J))

theorem NX(p:cC)(from1:Int){R:It (Int×Int)}(h:sn p from1=some R):xS bc 125 [tD bR p,cm from1] (fun(x:Int×Int)=>[cm x.1,cm x.2]) R:=by
 refine xS.of Tryz.func125 J J J fun w0 S0=>aA<|zo J (l9 J)<|zo J (l9 J)<|zo J (aS hV)<|ax<|aA<|AY (O1:=[]) (cts:=[bw bR p,bw cn from1]) (caps:=[.tmp 2,.tmp 3]) J UD (PT p from1) ⟨(ht J),(ht J),aV⟩ J fun v fp=>bN J<|ax<|av ?_;cases so h;exact H5 J J

theorem R7(p:cC)(from1:Int){R:Int×Int×Bool}(h:sq p from1=some R):bA bc 81 [tD bR p,cm from1] (tT [cm R.1,cm R.2.1,gX R.2.2]):=by
 refine CL Tryz.func81 J J J fun w0 S0=>aA<|zo J (l9 J)<|bh (r:=cn) (x:=(0:Int)) ce (fun _=>J) J fun b=>bh (r:=cn) (x:=(0:Int)) ce (fun _=>J) J fun b1=>bh (r:=rB) (x:=false) JS (fun _=>J) J fun b2=>ax<|af<|aA<|zo J (bH mV J J)<|aJ J<|bT h fun it q_it h=>EA U4 (NX _ _ q_it) ⟨(ht J),(ht J),aV⟩ J fun v fp=>ax<|aB<|bT h fun r q_r h=>SX ?_;refine ED (fun(i:Bool×Int×Int)=>[bx rB 4 b2 i.1,bx cn 3 b1 i.2.1,bx cn 3 b i.2.2]) (fun(i:Bool×Int×Int)=>(i.1,i.2.1,i.2.2)) (fun _=> .ret) J (ht J) (false,(0:Int),(0:Int)) J q_r (fun _=>J) J (fun i x r1 h lp rec1 _ _ _=>?_) (fun i j hi bd=>⟨fun hj=>?_,fun _ hj=>?_⟩)
 ·obtain⟨x1,x2,x3⟩:=i
  replace h:vG x x1 x2 x3=some r1:=h
  refine(show CG _ _ _ [qv lp rec1 .ready none,bx rB 4 b2 x1,bx cn 3 b1 x2,bx cn 3 b x3] _ from ?_);refine CV (G' :=[(0,tD bR p),(1,cm from1),(2,bw bR p),(4,tV (aE b 0)),(5,tV (aE b1 0)),(6,tV (aE b2 0)),(9,tD bR p),(10,cm from1),(12,cm x.1),(13,cm x.2)]) ?_ ⟨J,J,J,J,J,J,J,J,J,J,aV⟩;refine aA<|bN J<|ax<|am<|bN J<|aR<|EJ<|aB<|aA<|aJ J<|aJ J<|dI<|ap ce J aj J (ht J) (ht J)<|dI<|ap ce J aj J (ht J) (ht J)<|dI<|ap JS J aj J (ht J) hB<|ax<|av<|aF ?_;refine au<|au<|au<|bo ?_;cases so h;exact zw 0 J (true,x.2,x.1) J J
 ·skip
  obtain⟨x4,x5,x6⟩:=i
  obtain rfl:x4=r.1.2.1:=congrArg (fun q:Bool×Int×Int=>q.1) hi
  obtain rfl:x5=r.1.2.2.1:=congrArg (fun q:Bool×Int×Int=>q.2.1) hi
  obtain rfl:x6=r.1.2.2.2:=congrArg (fun q:Bool×Int×Int=>q.2.2) hi
  have h:=ct h (by rw [hj];rfl);refine(show AT _ _ _ [Bg bd,bx rB 4 b2 r.1.2.1,bx cn 3 b1 r.1.2.2.1,bx cn 3 b r.1.2.2.2] _ from ?_);refine cE (G' :=[(0,tD bR p),(1,cm from1),(2,bw bR p),(4,tV (aE b 0)),(5,tV (aE b1 0)),(6,tV (aE b2 0)),(9,tD bR p),(10,cm from1)]) ?_ ⟨J,J,J,J,J,J,J,J,aV⟩;refine an<|aw<|aA<|dI<|ap ce rfl aj rfl (ht rfl) hI<|dI<|ap ce rfl aj rfl (ht rfl) hI<|dI<|ap JS rfl aj rfl (ht rfl) hB<|ax<|av<|au<|ck 4 rfl<|cu<|ck 5 rfl<|ck 6 rfl<|zu<|tY ?_;cases so h;exact mO (ts:=[cm 0,cm 0,gX false]) (rvs:=[.cell 4 3,.cell 5 3,.cell 6 4]) J J ⟨gb ce J J J,gb ce J J J,gb JS J J J,aV⟩
 ·skip
  obtain⟨x7,x8,x9⟩:=i
  obtain rfl:x7=r.1.2.1:=congrArg (fun q:Bool×Int×Int=>q.1) hi
  obtain rfl:x8=r.1.2.2.1:=congrArg (fun q:Bool×Int×Int=>q.2.1) hi
  obtain rfl:x9=r.1.2.2.2:=congrArg (fun q:Bool×Int×Int=>q.2.2) hi
  have h:=cf h (by rw [hj];rfl);refine(show CG _ _ _ [Bg bd,bx rB 4 b2 r.1.2.1,bx cn 3 b1 r.1.2.2.1,bx cn 3 b r.1.2.2.2] _ from ?_);refine CV (G' :=[(0,tD bR p),(1,cm from1),(2,bw bR p),(4,tV (aE b 0)),(5,tV (aE b1 0)),(6,tV (aE b2 0)),(9,tD bR p),(10,cm from1)]) ?_ ⟨J,J,J,J,J,J,J,J,aV⟩;refine av ?_;refine aF (aa ?_);refine bo<|ck 4 J<|au<|ck 5 J<|cu<|ck 6 J<|zu<|tY ?_;cases so h;exact mO (ts:=[cm r.1.2.2.2,cm r.1.2.2.1,gX r.1.2.1]) (rvs:=[.cell 4 3,.cell 5 3,.cell 6 4]) J J ⟨gb ce J J J,gb ce J J J,gb JS J J J,aV⟩

theorem NP(p:cC)(frag:Int){R:Int}(h:qc p frag=some R):bA bc 46 [tD bR p,cm frag] (cm R):=by
 refine bA.of Tryz.func46 J J J fun w0 S0=>aA<|zo J (l9 J)<|zo J (gv)<|ax<|af<|aA<|zo J (bH mV J J)<|aJ J<|bT h fun r q_r h=>zo J (aL VR (R7 _ _ q_r) ⟨(ht J),(ht J),aV⟩)<|aJ J<|zo J (mA J J)<|zo J (mA J J)<|zo J (mA J J)<|bN J<|bN J<|bN J<|ax<|af ?_;refine am<|aJ J<|ax<|eE h J (fun h=>?_) (fun h=>?_)
 ·refine aA<|aJ J<|bN J<|ax<|av<|aa ?_;cases so h;exact ba J J
 ·refine fO<|aA<|zo J (gv)<|ax<|av ?_;cases so h;exact ba J J

theorem Jj(f:bk)(nodes:Int){R:(List Int)}(h:pn f nodes=some R):bA bc 47 [tD aP f,cm nodes] (fP R):=by
 refine bA.of Tryz.func47 J J J fun w0 S0=>aA<|zo J (l9 J)<|zo J (aS (show aK _ _ _ o8 from lU))<|ax<|af<|aA<|zo J (cQ R2 LN J J)<|zo J (bH ce J J)<|zo J (mU J)<|ax<|eE h J (fun h=>?_) (fun h=>?_)
 ·refine aA<|zo J (aQ (r:=cn) (ys:=[(0:Int)]) (xs:=[.const (.int .i64 (0))]) d8 ce J J J J J ⟨hI,aV⟩)<|bN J<|ax<|av<|aa ?_;cases so h;exact ba J J
 ·refine fO<|aA<|aJ J<|zo J (pt (ht J) hI)<|bT h fun r q_r h=>lF SO (FH _ q_r) ⟨(ht J),aV⟩ J fun l c=>bT h fun y q_y h=>zo J (qe d8 ce J (.head _) (ht J) hI q_y)<|oO (.head _) q_y fun hv=>bN J<|ax<|av<|jL<|EH 4 q_y J<|da 11 J<|EH 12 q_y J<|bb ?_;cases so h;exact ba J J

theorem Qe(p:cC)(nodes:Int):xV bc 126 Ig (fun _=>xG p nodes) [] [bw bR p,bw cn nodes]:=by
 refine xV.of Tryz.func126 J J J fun Sg yld s R h I yv hy e he w0 S0 B hB=>?_
 replace h:xG p nodes yld s=some R:=h
 refine aA<|zo J (cQ lj jH J J)<|zo J (bH tA J J)<|zo J (lx rZ J)<|zo J (bJ hI)<|ax<|aB<|bl (k:=12) J fun hN=>bU ?_;refine aW (oQ (Z:=fun ls i e1 s1=>(p.Frags.drop i=ls)∧I s1 e1∧kf p nodes yld ls i s1=some R) (Of:=fun _ i e1 s1=>[e1]) (Gf:=fun _ i e1 s1=>[(0,tV yv),(1,bw bR p),(2,bw cn nodes),(12,fZ (aP) p.Frags),(13,jB p.Frags),(14,cm (i:Int))]) (fun i e1 s1 h=>?_) (fun e2 tl ih i e1 s1 h=>?_) p.Frags 0 e s ⟨J,⟨he,h⟩⟩) (bu J)
 ·obtain⟨hx,h⟩:=h
  obtain⟨he1,h⟩:=h
  refine aC<|aA<|zo J (gP J J)<|ax<|af<|bF (ht J) (d5 hx)<|bt ?_;refine ac (ac (aN ?_));cases so h;exact H7 J he1 hB trivial
 ·obtain⟨hx,h⟩:=h
  obtain⟨he1,h⟩:=h
  refine aC<|aA<|zo J (gP J J)<|ax<|af<|bE (ht J) (dZ hx)<|fO<|af ?_;refine Mo (Z:=fun e3 s2=>I s2 e3∧s8 (kf p nodes yld tl) i s2=some R) (Of:=fun e3 s2=>[e3]) (Gf:=fun e3 s2=>[(0,tV yv),(1,bw bR p),(2,bw cn nodes),(12,fZ (aP) p.Frags),(13,jB p.Frags),(14,cm (i:Int))]) (fun e3 s2 h=>?_) (fun K=>?_)
  ·obtain⟨he2,h⟩:=h
   refine aw<|am<|zo rfl (nF (dv hx hN) rfl)<|aJ rfl<|aR ?_;exact bj (aW (ih (i+1) e3 s2 ⟨du hx,⟨he2,h⟩⟩) (bu J))
  ·skip
   refine aA<|aJ J<|zo J (nY rZ re J J J (d4 hx))<|zo J (bH re J J)<|bh (r:=aP) (x:=(⟨[],(0:Int),(0:Int),[]⟩:bk)) re (fun _=>Bp _) J fun b=>bN J<|ap re J aj J (ht J) (ht J)<|bf 5 J<|ax<|aA<|zo J (bH mV J J)<|aJ J<|bT h fun r q_r h=>zo J (aL T8 (NP _ _ q_r) ⟨(ht J),(ht J),aV⟩)<|bN J<|ax<|af<|aA<|aJ J ?_;refine zo J (iA (ht J) hI)<|ax<|eE h J (fun h=>?_) (fun h=>?_)
   ·refine bt ?_;refine ac (aN ?_);exact cE (K e1 s1 ⟨he1,h⟩) (bu J)
   ·refine fO<|aA<|zo J (bH re J J)<|zo J (bH ce J J)<|bT h fun r1 q_r1 h=>zo J (aL SR (Jj _ _ q_r1) ⟨(ht J),(ht J),aV⟩)<|zo J (lx d8 J)<|zo J (bJ hI)<|ax<|aB<|bl (k:=26) J fun hN1=>bU ?_;refine aW (oQ (Z:=fun ls1 i1 e4 s3=>(r1.drop i1=ls1)∧I s3 e4∧pQ p nodes yld (kf p nodes yld tl) i r ls1 s3=some R) (Of:=fun _ i1 e4 s3=>[e4]) (Gf:=fun _ i1 e4 s3=>[(0,tV yv),(1,bw bR p),(2,bw cn nodes),(4,cm (i:Int)),(6,cm r),(12,fZ (aP) p.Frags),(13,jB p.Frags),(14,cm (i:Int)),(26,fP r1),(27,jB r1),(28,cm (i1:Int))]) (fun i1 e4 s3 h=>?_) (fun e5 tl1 ih1 i1 e4 s3 h=>?_) r1 0 e1 s1 ⟨J,⟨he1,h⟩⟩) (bu J)
    ·obtain⟨hx1,h⟩:=h
     obtain⟨he3,h⟩:=h
     refine aC<|aA<|zo J (gP J J)<|ax<|af<|bF (ht J) (d5 hx1)<|bt ?_;refine ac (ac (aN ?_));refine an ?_;exact cE (K e4 s3 ⟨he3,h⟩) (bu J)
    ·obtain⟨hx1,h⟩:=h
     obtain⟨he3,h⟩:=h
     refine aC<|aA<|zo J (gP J J)<|ax<|af<|bE (ht J) (dZ hx1)<|fO<|af<|aB<|aA<|zo J (nY d8 ce J J J (d4 hx1))<|zo J (bH ce J J)<|bN J<|ax<|af<|bT h fun e6 q_e6 h=>bT h fun r2 q_r2 h=>?_
     refine iq (ts:=[_,_,_,_,_,_,_,_,_]) mixed J J
      ⟨gK 1 J J J (cQ lj jH J J),
      ⟨dR 32 0 J J J (bH tA J J),
      ⟨gK 6 J J J (dw J),
      ⟨gL 33 1 34 2 J J J J (nY rZ re J J J q_e6),
      ⟨dR 35 3 J J J (bH re J J),
      ⟨gK 2 J J J (bH ce J J),
      ⟨gL 36 4 37 5 J J J J (aL SR (Jj _ _ q_r2) ⟨(ht J),(ht J),aV⟩),
      ⟨dR 38 6 J J J (lx d8 J),
      ⟨S9 J J (bJ hI),
      aV⟩⟩⟩⟩⟩⟩⟩⟩⟩ ?_
     refine aw<|aB<|bl (k:=38) J fun hN2=>bU ?_;refine aW (oQ (Z:=fun ls2 i2 e7 s4=>(r2.drop i2=ls2)∧I s4 e7∧s7 yld i r (pQ p nodes yld (kf p nodes yld tl) i r tl1) e5 ls2 s4=some R) (Of:=fun _ i2 e7 s4=>[e7]) (Gf:=fun _ i2 e7 s4=>[(0,tV yv),(1,bw bR p),(2,bw cn nodes),(4,cm (i:Int)),(6,cm r),(8,cm e5),(12,fZ (aP) p.Frags),(13,jB p.Frags),(14,cm (i:Int)),(26,fP r1),(27,jB r1),(28,cm (i1:Int)),(38,fP r2),(39,jB r2),(40,cm (i2:Int))]) (fun i2 e7 s4 h=>?_) (fun e8 tl2 ih2 i2 e7 s4 h=>?_) r2 0 e4 s3 ⟨J,⟨he3,h⟩⟩) (bu J)
     ·obtain⟨hx2,h⟩:=h
      obtain⟨he4,h⟩:=h
      refine aC<|aA<|zo J (gP J J)<|ax<|af<|bF (ht J) (d5 hx2)<|bt ?_;refine ac (ac (aN ?_));refine an<|aw<|am<|zo rfl (nF (dv hx1 hN1) rfl)<|aJ rfl<|aR ?_;exact bj (aW (ih1 (i1+1) e7 s4 ⟨du hx1,⟨he4,h⟩⟩) (bu J))
     ·obtain⟨hx2,h⟩:=h
      obtain⟨he4,h⟩:=h
      refine aC<|aA<|zo J (gP J J)<|ax<|af<|bE (ht J) (dZ hx2)<|fO<|af<|aB<|aA<|zo J (nY d8 ce J J J (d4 hx2))<|zo J (bH ce J J)<|bN J<|ax<|aA<|aJ J<|aJ J<|aJ J ?_;refine aJ J<|zo J (c0 (y:=(⟨(i:Int),e5,e8⟩:dr)) Iq VI DA (⟨_,_,_,_,_,J,GD,J,(ht J),⟨_,_,_,_,_,J,GC,J,(ht J),⟨_,_,_,_,_,J,GB,J,(ht J),J⟩⟩⟩))<|aJ J<|bT h fun r3 q_r3 h=>CN hy he4 q_r3 (ht J) ⟨(ht J),(ht J),aV⟩ J fun e9 he5=>zo J (gj (ht J))<|ax<|eE h J (fun h=>?_) (fun h=>?_)
      ·refine av ?_;refine aF (aa (aa (aF (aF (aa (aa (aF (aF (aa (aa (aF ?_)))))))))));cases so h;exact F2 J he5 hB trivial
      ·refine bO<|an<|aw<|am<|zo rfl (nF (dv hx2 hN2) rfl)<|aJ rfl<|aR ?_;exact bj (aW (ih2 (i2+1) e9 r3.2 ⟨du hx2,⟨he5,h⟩⟩) (bu J))

theorem Pt(p:cC)(nodes:Int){R:It (dr×Int)}(h:GX p nodes=some R):xS bc 83 [tD bR p,cm nodes] Ig R:=by
 refine xS.of Tryz.func83 J J J fun w0 S0=>aA<|zo J (l9 J)<|zo J (l9 J)<|zo J (aS hV)<|ax<|aA<|AY (O1:=[]) (cts:=[bw bR p,bw cn nodes]) (caps:=[.tmp 2,.tmp 3]) J U0 (Qe p nodes) ⟨(ht J),(ht J),aV⟩ J fun v fp=>bN J<|ax<|av ?_;cases so h;exact H5 J J

theorem Si(p:cC)(nodes:Int)(holds:(dr→Int→Option Bool)){R:(List dr)}(h:D3 p nodes holds=some R):bA bc 48 [tD bR p,cm nodes,(iH bc Ig n9 (fun(x:dr×Int)=>holds x.1 x.2))] (fZ (ft) R):=by
 refine CL Tryz.func48 J J J fun w0 S0=>aA<|zo J (l9 J)<|zo J (Fj (ht J))<|zo J (aS (show aK _ _ _ Q4 from lU))<|ax<|aA<|cj false ft 52<|bh (x:=aD none 0 0) OS (fun _=>MW) J fun b=>ax<|af<|aA<|zo J (bH mV J J)<|aJ J<|bT h fun it q_it h=>EA VQ (Pt _ _ q_it) ⟨(ht J),(ht J),aV⟩ J fun v fp=>ax<|aB ?_
 obtain⟨s,q_s,h⟩:=bs h
 refine Mm (fun(i:Option Nat×Nat×List dr)=>[bx rV 46 b (aD i.1 i.2.1 i.2.2.length),gu ft 52 i.1 i.2.1 i.2.2]) (fun(i:Option Nat×Nat×List dr)=>(i.2.2)) J (ht J) (none,0,([]:List dr)) J q_s (fun _=>J) J (fun i x s2 h lp rec1 _ _ _=>?_) (fun i hi bd=>?_)
 ·obtain⟨l,c,xs⟩:=i
  replace h:yF holds x xs=some s2:=h
  refine(show CG _ _ _ [uu lp rec1 .ready,bx rV 46 b (aD l c xs.length),gu ft 52 l c xs] _ from ?_);refine CV (G' :=[(0,tD bR p),(1,cm nodes),(2,(iH bc Ig n9 (fun(x:dr×Int)=>holds x.1 x.2))),(3,bw bR p),(5,bw (rT ((iH bc Ig n9 (fun(x:dr×Int)=>holds x.1 x.2)))) ()),(6,fZ (ft) ([])),(7,tV (aE b 0)),(10,tD bR p),(11,cm nodes),(13,tD ft x.1),(14,cm x.2)]) ?_ ⟨J,J,J,J,J,J,J,J,J,J,J,aV⟩;refine aA<|bh (r:=ft) (x:=(⟨(0:Int),(0:Int),(0:Int)⟩:dr)) Iq (fun _=>DA _) J fun b1=>ap Iq J aj J (ht J) (ht J)<|bf 8 J<|ax<|am<|bN J<|aR<|OF<|aB<|aA<|zo J (yL Tw (ht J))<|zo J (bH Iq J J)<|aJ J<|bT h fun r q_r h=>zo J (jV (args:=(fun(x:dr×Int)=>[tD ft x.1,tD cn x.2])) (res:=If) (f:=(fun(x:dr×Int)=>holds x.1 x.2)) (x:=((x.1,x.2):dr×Int)) (ht J) q_r ⟨(ht J),(ht J),aV⟩)<|ax<|eE h J (fun h=>?_) (fun h=>?_)
  ·refine am<|zo J (qh OS (.tail _ (.head _)) (ht J))<|zo J (bH Iq J J)<|zo J (aQ (r:=ft) (ys:=[x.1]) (xs:=[.tmp 20]) Tryz.underlying46 Iq J J J J J ⟨(ht J),aV⟩)<|eI<|bT h fun l1 q_l1 h=>dJ Iq J J J J Tryz.underlying46 J J (ht J) (ht J) q_l1 fun l2 c1=>eI<|ap OS J aj J (ht J) (OK (ht J))<|aR<|an<|cu<|cu<|au ?_;exact A2 (l2,c1,l1) (so h) J
  ·refine bO<|an ?_;exact A2 (l,c,xs) (so h) J
 ·skip
  obtain⟨l3,c2,xs1⟩:=i
  have hi:xs1=s:=hi
  subst hi
  refine(show AT _ _ _ [Bg bd,bx rV 46 b (aD l3 c2 xs1.length),gu ft 52 l3 c2 xs1] _ from ?_);refine cE (G' :=[(0,tD bR p),(1,cm nodes),(2,(iH bc Ig n9 (fun(x:dr×Int)=>holds x.1 x.2))),(3,bw bR p),(5,bw (rT ((iH bc Ig n9 (fun(x:dr×Int)=>holds x.1 x.2)))) ()),(6,fZ (ft) ([])),(7,tV (aE b 0)),(10,tD bR p),(11,cm nodes)]) ?_ ⟨J,J,J,J,J,J,J,J,J,aV⟩;refine an<|aw<|aA<|zo rfl (qh OS (.tail _ (.head _)) (ht rfl))<|bN rfl<|ax<|av<|au<|jL<|da 6 rfl<|da 23 rfl<|kU 6 rfl<|bb<|cu<|bb<|zu<|tY ?_;cases so h;exact ba J J

theorem Sh(p:dr)(p1:Int){R:Bool}(h:vH p p1=some R):bA bc 49 [tD ft p,cm p1] (gX R):=by
 refine bA.of Tryz.func49 J J J fun w0 S0=>aA<|zo J (l9 J)<|zo J (iO)<|ax<|aA<|zo J (iO)<|ax<|av ?_;cases so h;exact ba J J

theorem Sv(p:cC)(nodes:Int){R:(List dr)×Int}(h:yG p nodes=some R):bA bc 17 [tD bR p,cm nodes] (tT [fZ (ft) R.1,cm R.2]):=by
 refine bA.of Tryz.func17 J J J fun w0 S0=>aA<|zo J (l9 J)<|zo J (aS (show aK _ _ _ Q4 from lU))<|zo J (gv)<|ax<|af<|aA<|zo J (bH mV J J)<|aJ J<|bT h fun r q_r h=>zo J (aL SS (Jk _ _ _ q_r) ⟨(ht J),hI,(ht J),aV⟩)<|bN J<|ax<|aA<|aJ J<|zo J (H8 J)<|ax ?_;refine eE h J (fun h=>?_) (fun h=>?_)
 ·refine aA<|aJ J<|zo J (aS (show aK _ _ _ Q4 from lU))<|bN J<|ax<|av<|aa ?_;cases so h;exact df J J J
 ·refine fO<|aA<|zo J (bH mV J J)<|aJ J<|bT h fun r1 q_r1 h=>zo J (aL V8 (Si _ _ _ q_r1) ⟨(ht J),(ht J),(RS V7 fun x y h=>Sh _ _ h),aV⟩)<|bN J<|zo J (gv)<|ax<|av ?_;cases so h;exact df J J J

theorem Sp{R:bG}(h:AK=some R):bA bc 29 [] (tD eh R):=by
 refine bA.of Tryz.func29 J J J fun w0 S0=>aA<|bh (r:=eh) (x:=(⟨[]⟩:bG)) ET (fun _=>xm _) J fun b=>ax<|aA<|zo J (c0 (y:=Q6) pY RW o6 (⟨_,_,_,_,_,J,vv,J,hS,⟨_,_,_,_,_,J,vu,J,hI,J⟩⟩))<|zo J (c0 (y:=Q7) pY RW o6 (⟨_,_,_,_,_,J,vv,J,hS,⟨_,_,_,_,_,J,vu,J,hI,J⟩⟩))<|zo J (aQ (r:=dk) (ys:=[Q6,Q7]) (xs:=[.tmp 1,.tmp 2]) vd pY J J J J J ⟨(ht J),(ht J),aV⟩)<|zo J (aQ (r:=cn) (ys:=[(0:Int)]) (xs:=[.const (.int .i64 (0))]) d8 ce J J J J J ⟨hI,aV⟩)<|zo J (c0 (y:=Rk) ud TH ym (⟨_,_,_,_,_,J,B5,J,hS,⟨_,_,_,_,_,J,B4,J,(ht J),⟨_,_,_,_,_,J,IB,J,(ht J),J⟩⟩⟩))<|zo J (c0 (y:=Ra) pY RW o6 (⟨_,_,_,_,_,J,vv,J,hS,⟨_,_,_,_,_,J,vu,J,hI,J⟩⟩))<|zo J (aQ (r:=dk) (ys:=[Ra]) (xs:=[.tmp 6]) vd pY J J J J J ⟨(ht J),aV⟩)<|zo J (c0 (y:=Q8) ud TH ym (⟨_,_,_,_,_,J,B5,J,hS,⟨_,_,_,_,_,J,B4,J,(ht J),J⟩⟩))<|zo J (aQ (r:=di) (ys:=[Rk,Q8]) (xs:=[.tmp 5,.tmp 8]) zC ud J J J J J ⟨(ht J),(ht J),aV⟩)<|zo J (c0 (y:=(⟨[Rk,Q8]⟩:bG)) ET VJ xm (⟨_,_,_,_,_,J,E4,J,(ht J),J⟩))<|ap ET J aj J (ht J) (ht J)<|bf 0 J<|ax<|av ?_;cases so h;exact lI J ET J J J

theorem TP{R:Bool}(h:vQ=some R):bA bc 8 [] (gX R):=by
 refine bA.of Tryz.func8 J J J fun w0 S0=>aA<|zo J (iO)<|ax<|aA<|zo J (aQ (r:=cn) (ys:=[(2:Int)]) (xs:=[.const (.int .i64 (2))]) d8 ce J J J J J ⟨hI,aV⟩)<|zo J (c0 (y:=Rq) dg Pn kD (⟨_,_,_,_,_,J,uk,J,hI,⟨_,_,_,_,_,J,pg,J,hI,⟨_,_,_,_,_,J,nq,J,hI,⟨_,_,_,_,_,J,xx,J,hI,⟨_,_,_,_,_,J,uj,J,(ht J),J⟩⟩⟩⟩⟩))<|zo J (c0 (y:=Q5) pZ TJ zF (⟨_,_,_,_,_,J,GF,J,hI,J⟩))<|zo J (aQ (r:=dW) (ys:=[Q5]) (xs:=[.tmp 8]) rX pZ J J J J J ⟨(ht J),aV⟩)<|zo J (c0 (y:=Rr) dg Pn kD (⟨_,_,_,_,_,J,uk,J,hI,⟨_,_,_,_,_,J,nq,J,hI,⟨_,_,_,_,_,J,B6,J,(ht J),J⟩⟩⟩))<|zo J (aQ (r:=ai) (ys:=[Rq,Rr]) (xs:=[.tmp 7,.tmp 10]) ly dg J J J J J ⟨(ht J),(ht J),aV⟩)<|zo J (c0 (y:=Vm) pc RY pX (⟨_,_,_,_,_,J,IC,J,(ht J),J⟩))<|bh (r:=cH) (x:=Gi) pc (fun _=>pX _) J fun b=>ap pc J aj J (ht J) (ht J)<|bf 1 J<|ax<|af<|bT h fun r q_r h=>bT h fun r1 q_r1 h=>?_
 refine j6 8 [tc (tD cH Vm),tc (tD eh r),tc (tT [tD bR r1.1,cm r1.2]),tc (tT [tD bR r1.1,cm r1.2]),tc (tD bR r1.1),tc (cm r1.2),([6],fun s=>tV (aE ((s.getD 0 o7).h 0).2 0)),tc (zJ)] [false,false,false,false,false,false,true,true] [fun _=>[],fun sg=>[bx bR 33 ((sg 6).h 0).2 tw],fun sg=>[bx bR 33 ((sg 6).h 0).2 r1.1]] J mixed J J J J J
  ⟨⟨[⟨1,fun _=>bw cH Vm,none⟩],_,0,1,J,⟨(fun _=>J),aV⟩,J,J,J,J,J,fun _ sg _ _=>ae J (bH pc J J)⟩,
  ⟨⟨[],_,0,1,J,aV,J,J,J,J,J,fun _ sg _ _=>ae J (aL Wf (Sp q_r) trivial)⟩,
  ⟨⟨[⟨14,fun _=>tD cH Vm,some 0⟩,⟨15,fun _=>tD eh r,some 1⟩],_,0,1,J,⟨(fun _=>J),(fun _=>J),aV⟩,J,J,J,J,J,fun _ sg _ _=>ae J (aL Vb (NY _ _ q_r1) ⟨(ht J),(ht J),aV⟩)⟩,
  ⟨⟨[⟨16,fun _=>tT [tD bR r1.1,tD cn r1.2],some 2⟩],_,0,1,J,⟨(fun _=>J),aV⟩,J,J,J,J,J,fun _ sg _ _=>ae J (dw J)⟩,
  ⟨⟨[⟨13,fun _=>tT [tD bR r1.1,tD cn r1.2],some 3⟩],_,0,1,J,⟨(fun _=>J),aV⟩,J,J,J,J,J,fun _ sg _ _=>ae J (mA J J)⟩,
  ⟨⟨[⟨13,fun _=>tT [tD bR r1.1,tD cn r1.2],some 3⟩],_,0,2,J,⟨(fun _=>J),aV⟩,J,J,J,J,J,fun _ sg _ _=>ae J (mA J J)⟩,
  ⟨⟨[],_,J,aV,J,J,J,fun sg=>cy J (gI (r:=bR) (x:=tw) mV (fun _=>sd _))⟩,
  ⟨⟨[⟨2,fun sg=>tV (aE ((sg 6).h 0).2 0),some 6⟩,⟨17,fun _=>tD bR r1.1,some 4⟩],_,J,⟨(fun _=>J),(fun _=>J),aV⟩,J,J,J,fun sg=>cy J (ln mV J (ui aj) J (ht J) (ht J))⟩,
  aV⟩⟩⟩⟩⟩⟩⟩⟩ (fun sg=>?_)
 refine(show RG _ _ _ _ [bx bR 33 ((sg 6).h 0).2 r1.1] _ from ?_);refine bf 2 J<|bN J<|ax<|aA<|zo J (bH mV J J)<|bT h fun r2 q_r2 h=>zo J (aL Wh (Sv _ _ q_r2) ⟨(ht J),hI,aV⟩)<|aJ J<|zo J (mA J J)<|zo J (mA J J)<|bN J<|bN J<|ax<|aA<|aJ J<|zo J (mU J)<|aJ J<|cP J J (fun hg=>dw J)<|cP J J (fun hg=>cO (bB J hg) hI)<|zo J (r0 J J) ?_;refine aJ J<|cP J J (fun hg=>cQ lj jH J J)<|cP J J (fun hg=>bD tA J J (bB J hg))<|cP J J (fun hg=>cA rZ (bB J hg))<|cP J J (fun hg=>cO (bB J hg) hI)<|zo J (r0 J J)<|aJ J<|bT h fun t q_t h=>cP J J (fun hg=>cQ lj jH J J)<|cP J J (fun hg=>bD tA J J (bB J hg)) ?_
 obtain⟨e,h1t,h0t⟩:=og q_t
 have q_eg:=fun hb=>(h1t hb).1
 refine cP J J (fun hg=>aO rZ re J (bB J hg) hI (q_eg hg))<|cP J J (fun hg=>lc FE J wG J (bB J hg))<|cP J J (fun hg=>bD pe J J (bB J hg))<|cP J J (fun hg=>cA ly (bB J hg))<|cP J J (fun hg=>cO (bB J hg) hI)<|zo J (fe (ht J) (fun hb=>(bB J hb)) (fun hb=>(h1t hb).2) h0t)<|aJ J<|bT h fun t1 q_t1 h=>cP J J (fun hg=>cQ lj jH J J)<|cP J J (fun hg=>bD tA J J (bB J hg)) ?_
 obtain⟨e1,h1t1,h0t1⟩:=og q_t1
 have q_e1g:=fun hb=>(h1t1 hb).1
 refine cP J J (fun hg=>aO rZ re J (bB J hg) hI (q_e1g hg))<|cP J J (fun hg=>lc FE J wG J (bB J hg))<|cP J J (fun hg=>bD pe J J (bB J hg)) ?_
 obtain⟨e2,h1t1⟩:=SZ (fun hb=>(h1t1 hb).2)
 have q_e2g:=fun hb=>(h1t1 hb).1
 refine cP J J (fun hg=>aO ly dg J (bB J hg) hI (q_e2g hg))<|cP J J (fun hg=>lc vY J nw J (bB J hg))<|cP J J (fun hg=>bD ce J J (bB J hg))<|cP J J (fun hg=>cO (bB J hg) hI)<|zo J (fe (ht J) (fun hb=>(bB J hb)) (fun hb=>(h1t1 hb).2) h0t1)<|aJ J<|cP J J (fun hg=>dw J)<|cP J J (fun hg=>cA Tryz.underlying46 (bB J hg))<|cP J J (fun hg=>cO (bB J hg) hI)<|zo J (r0 J J)<|bN J<|ax<|av ?_;cases so h;exact ba J J

theorem SE(p:cC)(frag:Int){R:Int×Int}(h:qd p frag=some R):bA bc 14 [tD bR p,cm frag] (tT [cm R.1,cm R.2]):=by
 refine bA.of Tryz.func14 J J J fun w0 S0=>aA<|zo J (l9 J)<|zo J (gv)<|zo J (gv)<|ax<|af<|aA<|zo J (bH mV J J)<|aJ J<|bT h fun r q_r h=>zo J (aL SS (Jk _ _ _ q_r) ⟨(ht J),(ht J),hI,aV⟩)<|bN J<|ax<|aA<|aJ J<|zo J (H8 J)<|ax ?_;refine eE h J (fun h=>?_) (fun h=>?_)
 ·refine aA<|aJ J<|zo J (gv)<|bN J<|ax<|av<|aa ?_;cases so h;exact df J J J
 ·refine fO<|aA<|zo J (bH mV J J)<|aJ J<|bT h fun r1 q_r1 h=>zo J (aL T8 (NP _ _ q_r1) ⟨(ht J),(ht J),aV⟩)<|bN J<|zo J (gv)<|ax<|av ?_;cases so h;exact df J J J

theorem Sw(p:cC)(frag:Int)(nodes:Int){R:(List Int)×Int}(h:nP p frag nodes=some R):bA bc 15 [tD bR p,cm frag,cm nodes] (tT [fP R.1,cm R.2]):=by
 refine bA.of Tryz.func15 J J J fun w0 S0=>aA<|zo J (l9 J)<|zo J (aS (show aK _ _ _ o8 from lU))<|zo J (gv)<|ax<|af<|aA<|zo J (bH mV J J)<|aJ J<|aJ J<|bT h fun r q_r h=>zo J (aL SS (Jk _ _ _ q_r) ⟨(ht J),(ht J),(ht J),aV⟩)<|bN J<|ax<|aA<|aJ J<|zo J (H8 J)<|aR ?_;refine aw<|eE h rfl (fun h=>?_) (fun h=>?_)
 ·refine aA<|aJ J<|zo J (aS (show aK _ _ _ o8 from lU))<|bN J<|ax<|av<|aa ?_;cases so h;exact df J J J
 ·refine fO<|aA<|zo J (cQ lj jH J J)<|zo J (bH tA J J)<|aJ J<|bT h fun e q_e h=>zo J (nY rZ re J J J q_e)<|zo J (bH re J J)<|aJ J<|bT h fun r1 q_r1 h=>zo J (aL SR (Jj _ _ q_r1) ⟨(ht J),(ht J),aV⟩)<|bN J<|zo J (gv)<|ax<|av ?_;cases so h;exact df J J J

theorem Jl(e:aT){R:Bool}(h:kJ e=some R):bA bc 30 [tD bz e] (gX R):=by
 refine bA.of Tryz.func30 J J J fun w0 S0=>aA<|zo J (l9 J)<|zo J (iO)<|ax<|af<|aA<|zo J (cQ fW db J J)<|zo J (bH mR J J)<|zo J (lx l8 J)<|zo J (gU (ht J) hI)<|ax<|eE h J (fun h=>?_) (fun h=>?_)
 ·refine aA<|zo J (iO)<|ax<|av<|aa ?_;cases so h;exact ba J J
 ·refine fO<|af<|aA<|zo J (cQ fW db J J)<|zo J (bH mR J J)<|zo J (lx l8 J)<|zo J (bJ hI)<|ax<|aB<|bl (k:=10) J fun hN=>bU ?_;refine aW (fM (Z:=fun ls i=>(e.Nodes.drop i=ls)∧jY ls=some R) (Of:=fun _ i=>[]) (Gf:=fun _ i=>[(10,fZ (aY) e.Nodes),(11,jB e.Nodes),(12,cm (i:Int))]) (fun i h=>?_) (fun e1 tl ih i h=>?_) e.Nodes 0 ⟨J,h⟩) (bu J)
  ·obtain⟨hx,h⟩:=h
   refine aC<|aA<|zo J (gP J J)<|ax<|af<|bF (ht J) (d5 hx)<|bt ?_;refine ac (ac (aN ?_));refine aw<|aA<|zo rfl (iO)<|ax<|av ?_;cases so h;exact ba J J
  ·obtain⟨hx,h⟩:=h
   refine aC<|aA<|zo J (gP J J)<|ax<|af<|bE (ht J) (dZ hx)<|fO<|af<|aB<|aA<|zo J (nY l8 dS J J J (d4 hx))<|zo J (bH dS J J)<|bh (r:=aY) (x:=Gh) dS (fun _=>n7 _) J fun b=>ap dS J aj J (ht J) (ht J)<|bf 4 J<|ax<|aA<|zo J (cQ y5 rC J J) ?_;refine zo J (cQ FF xN J J)<|zo J (bH Io J J)<|zo J (yM kV (ht J))<|zo J (gU (ht J) hI)<|ax<|eE h J (fun h=>?_) (fun h=>?_)
   ·refine aA<|zo J (iO)<|ax<|av ?_;refine aF (aa (aa (aF (aa ?_))));cases so h;exact ba J J
   ·refine bO<|an<|aw<|am<|zo rfl (nF (dv hx hN) rfl)<|aJ rfl<|aR ?_;exact bj (aW (ih (i+1) ⟨du hx,h⟩) (bu J))

end Go.Proofs.YtnmjbolollcokaaGreatDoor

