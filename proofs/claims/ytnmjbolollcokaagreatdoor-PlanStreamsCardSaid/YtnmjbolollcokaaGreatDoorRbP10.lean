/- cJ of this claim: P10. -/
import Derived.Test.YtnmjbolollcokaaGreatDoorRbT
import Derived.Test.YtnmjbolollcokaaGreatDoorRbP9
set_option linter.all false
namespace Go.Proofs.YtnmjbolollcokaaGreatDoor
open Go
set_option maxRecDepth 100000

theorem zj(p:bW)(frag:Int)(nodes:Int){R:Int}(h:g9 p frag nodes=some R):bn ba 45 [tD bB p,bD frag,bD nodes] (bD R):=by
 refine bn.of Tryz.func45 J J J fun w0 S0=>ay<|zo J (gY J)<|zo J (d9)<|aw<|af<|ay<|zo J (cr gP fC J J)<|zo J (bz nP J J)<|zo J (gV lP J)<|zo J (eX (ht J) hI)<|aH J<|cZ J J (fun hg=>cL J)<|cZ J J (fun hg=>eW (bq J hg) hI)<|zo J (oB J J)<|aH J<|cZ J J (fun hg=>cL J)<|cZ J J (fun hg=>cr gP fC J J)<|cZ J J (fun hg=>bp nP J J (bq J hg))<|cZ J J (fun hg=>ca lP (bq J hg))<|cZ J J (fun hg=>dN (bq J hg) (bq J hg)) ?_;refine zo J (oB J J)<|aH J<|cZ J J (fun hg=>cL J)<|cZ J J (fun hg=>eW (bq J hg) hI)<|zo J (oB J J)<|aH J<|cZ J J (fun hg=>cL J)<|cZ J J (fun hg=>eX (bq J hg) hI)<|zo J (oB J J)<|aw<|dn h J (fun h=>?_) (fun h=>?_)
 ·refine ay<|zo J (d9)<|aw<|aq<|M ?_;cases so h;exact aW J J
 ·refine dJ<|ay<|zo J (d9)<|aw<|aq ?_;cases so h;exact aW J J

theorem G9(p:bW)(from1:Int):r0 ba 192 (fun(x:Int×Int)=>[bD x.1,bD x.2]) (fun _=>nQ p from1) [] [bj bB p,bj bM from1]:=by
 refine r0.of Tryz.func192 J J J fun Sg yld s R h I yv hy e he w0 S0 B hB=>?_
 replace h:nQ p from1 yld s=some R:=h
 refine ay<|zo J (cr gP fC J J)<|zo J (bz nP J J)<|zo J (gV lP J)<|zo J (bA hI)<|aw<|ax<|bf (k:=9) J fun hN=>bF ?_;refine aS (kR (Z:=fun ls i e1 s1=>(p.Frags.drop i=ls)∧I s1 e1∧fA from1 yld ls i s1=some R) (Of:=fun _ i e1 s1=>[e1]) (Gf:=fun _ i e1 s1=>[(0,tV yv),(2,bj bM from1),(9,dH (aN) p.Frags),(10,fD p.Frags),(11,bD (i:Int))]) (fun i e1 s1 h=>?_) (fun e2 tl ih i e1 s1 h=>?_) p.Frags 0 e s ⟨J,⟨he,h⟩⟩) (bl J)
 ·obtain⟨hx,h⟩:=h
  obtain⟨he1,h⟩:=h
  refine aA<|ay<|zo J (ej J J)<|aw<|af<|bu (ht J) (c8 hx)<|bk ?_;refine ac (ac (aM ?_));cases so h;exact Ba J he1 hB trivial
 ·obtain⟨hx,h⟩:=h
  obtain⟨he1,h⟩:=h
  refine aA<|ay<|zo J (ej J J)<|aw<|af<|bt (ht J) (cY hx)<|dJ<|af<|ax<|ay<|aH J<|zo J (km lP lR J J J (c0 hx))<|zo J (bz lR J J)<|bg (r:=aN) (x:=H5) lR (fun _=>sh _) J fun b=>bC J<|ap lR J aj J (ht J) (ht J)<|bc 5 J<|aw<|af ?_;refine am<|zo J (cr wk ov J J)<|zo J (bz k5 J J)<|zo J (gV iq J)<|zo J (bA hI)<|aw<|ax<|bf (k:=17) J fun hN1=>bF ?_;refine aS (kR (Z:=fun ls1 i1 e3 s2=>(e2.Nodes.drop i1=ls1)∧I s2 e3∧fz from1 yld (fA from1 yld tl) i ls1 i1 s2=some R) (Of:=fun _ i1 e3 s2=>[e3]) (Gf:=fun _ i1 e3 s2=>[(0,tV yv),(2,bj bM from1),(4,bD (i:Int)),(9,dH (aN) p.Frags),(10,fD p.Frags),(11,bD (i:Int)),(17,dH (ak) e2.Nodes),(18,fD e2.Nodes),(19,bD (i1:Int))]) (fun i1 e3 s2 h=>?_) (fun e4 tl1 ih1 i1 e3 s2 h=>?_) e2.Nodes 0 e1 s1 ⟨J,⟨he1,h⟩⟩) (bl J)
  ·obtain⟨hx1,h⟩:=h
   obtain⟨he2,h⟩:=h
   refine aA<|ay<|zo J (ej J J)<|aw<|af<|bu (ht J) (c8 hx1)<|bk ?_;refine ac (ac (aM ?_));refine an<|av<|am<|zo rfl (jQ (cI hx hN) rfl)<|aH rfl<|aQ ?_;exact be (aS (ih (i+1) e3 s2 ⟨cH hx,⟨he2,h⟩⟩) (bl J))
  ·obtain⟨hx1,h⟩:=h
   obtain⟨he2,h⟩:=h
   refine aA<|ay<|zo J (ej J J)<|aw<|af<|bt (ht J) (cY hx1)<|dJ<|af<|ax<|ay<|aH J<|zo J (km iq cE J J J (c0 hx1))<|zo J (bz cE J J)<|bg (r:=ak) (x:=vz) cE (fun _=>gG _) J fun b1=>bC J<|ap cE J aj J (ht J) (ht J)<|bc 7 J<|aw<|af ?_;refine am<|zo J (cr qr j8 J J)<|zo J (bz bK J J)<|zo J (jR J)<|aH J<|co J J (fun hg=>cr qq j7 J J)<|co J J (fun hg=>bp bK J J (bq J hg))<|co J J (fun hg=>bz bK J J)<|co J J (fun hg=>cj (bq J hg) (bq J hg))<|zo J (mv J J)<|aH J ?_;refine FX ((e4.Op==(9:Int))&&(e4.Table==from1)) (fun hg=>?_) (fun hg=>?_)
   ·have h:=ct h hg;refine AY J J J hg<|aH J<|AY J J J hg<|aH J<|AY J J J hg<|aH J<|AY J J J hg<|bI h fun r q_r h=>wx hy he2 q_r (ht J) ⟨(ht J),(ht J),aT⟩ J fun e5 he3=>AY J J J hg<|zo J (d8 (ht J))<|zo J (DH (ht J) hg (ht J))<|aw<|dn h J (fun h=>?_) (fun h=>?_)
    ·refine aq ?_;refine aD (M (M (aD (aD (M (M (aD ?_)))))));cases so h;exact zB J he3 hB trivial
    ·refine bE<|an<|av<|am<|zo rfl (jQ (cI hx1 hN1) rfl)<|aH rfl<|aQ ?_;exact be (aS (ih1 (i1+1) e5 r.2 ⟨cH hx1,⟨he3,h⟩⟩) (bl J))
   ·have h:=cf h hg;refine wy J J J hg J<|wy J J J hg J<|wy J J J hg J<|wy J J J hg J<|wy J J J hg J<|zo J (DI (ht J) hg hBc)<|aw<|kT (ht J) (fun hc=>?_) (fun hc=>?_)
    ·cases hc
    ·refine bE<|an<|av<|am<|zo rfl (jQ (cI hx1 hN1) rfl)<|aH rfl<|aQ ?_;exact be (aS (ih1 (i1+1) e3 s2 ⟨cH hx1,⟨he2,h⟩⟩) (bl J))

theorem Fz(p:bW)(from1:Int){R:It (Int×Int)}(h:np p from1=some R):rX ba 125 [tD bB p,bD from1] (fun(x:Int×Int)=>[bD x.1,bD x.2]) R:=by
 refine rX.of Tryz.func125 J J J fun w0 S0=>ay<|zo J (gY J)<|zo J (gY J)<|zo J (aP hV)<|aw<|ay<|uK (O1:=[]) (cts:=[bj bB p,bj bM from1]) (caps:=[.tmp 2,.tmp 3]) J Lh (G9 p from1) ⟨(ht J),(ht J),aT⟩ J fun v fp=>bC J<|aw<|aq ?_;cases so h;exact A8 J J

theorem I0(p:bW)(from1:Int){R:Int×Int×Bool}(h:nq p from1=some R):bn ba 81 [tD bB p,bD from1] (tT [bD R.1,bD R.2.1,eH R.2.2]):=by
 refine ww Tryz.func81 J J J fun w0 S0=>ay<|zo J (gY J)<|bg (r:=bM) (x:=(0:Int)) bK (fun _=>J) J fun b=>bg (r:=bM) (x:=(0:Int)) bK (fun _=>J) J fun b1=>bg (r:=rB) (x:=false) Cw (fun _=>J) J fun b2=>aw<|af<|ay<|zo J (bz iV J J)<|aH J<|bI h fun it q_it h=>yb LH (Fz _ _ q_it) ⟨(ht J),(ht J),aT⟩ J fun v fp=>aw<|ax<|bI h fun r q_r h=>JN ?_;refine yd (fun(i:Bool×Int×Int)=>[bx rB 4 b2 i.1,bx bM 3 b1 i.2.1,bx bM 3 b i.2.2]) (fun(i:Bool×Int×Int)=>(i.1,i.2.1,i.2.2)) (fun _=> .ret) J (ht J) (false,(0:Int),(0:Int)) J q_r (fun _=>J) J (fun i x r1 h lp rec1 _ _ _=>?_) (fun i j hi bd=>⟨fun hj=>?_,fun _ hj=>?_⟩)
 ·obtain⟨x1,x2,x3⟩:=i
  replace h:qb x x1 x2 x3=some r1:=h
  refine(show CG _ _ _ [lT lp rec1 .ready none,bx rB 4 b2 x1,bx bM 3 b1 x2,bx bM 3 b x3] _ from ?_);refine wE (G' :=[(0,tD bB p),(1,bD from1),(2,bj bB p),(4,tV (aF b 0)),(5,tV (aF b1 0)),(6,tV (aF b2 0)),(9,tD bB p),(10,bD from1),(12,bD x.1),(13,bD x.2)]) ?_ ⟨J,J,J,J,J,J,J,J,J,J,aT⟩;refine ay<|bC J<|aw<|am<|bC J<|aQ<|yj<|ax<|ay<|aH J<|aH J<|cS<|ap bK J aj J (ht J) (ht J)<|cS<|ap bK J aj J (ht J) (ht J)<|cS<|ap Cw J aj J (ht J) hB<|aw<|aq<|aD ?_;refine au<|au<|au<|bh ?_;cases so h;exact s9 0 J (true,x.2,x.1) J J
 ·skip
  obtain⟨x4,x5,x6⟩:=i
  obtain rfl:x4=r.1.2.1:=congrArg (fun q:Bool×Int×Int=>q.1) hi
  obtain rfl:x5=r.1.2.2.1:=congrArg (fun q:Bool×Int×Int=>q.2.1) hi
  obtain rfl:x6=r.1.2.2.2:=congrArg (fun q:Bool×Int×Int=>q.2.2) hi
  have h:=ct h (by rw [hj];rfl);refine(show AT _ _ _ [u3 bd,bx rB 4 b2 r.1.2.1,bx bM 3 b1 r.1.2.2.1,bx bM 3 b r.1.2.2.2] _ from ?_);refine cd (G' :=[(0,tD bB p),(1,bD from1),(2,bj bB p),(4,tV (aF b 0)),(5,tV (aF b1 0)),(6,tV (aF b2 0)),(9,tD bB p),(10,bD from1)]) ?_ ⟨J,J,J,J,J,J,J,J,aT⟩;refine an<|av<|ay<|cS<|ap bK rfl aj rfl (ht rfl) hI<|cS<|ap bK rfl aj rfl (ht rfl) hI<|cS<|ap Cw rfl aj rfl (ht rfl) hB<|aw<|aq<|au<|bR 4 rfl<|bU<|bR 5 rfl<|bR 6 rfl<|s8<|oz ?_;cases so h;exact jE (ts:=[bD 0,bD 0,eH false]) (rvs:=[.cell 4 3,.cell 5 3,.cell 6 4]) J J ⟨d4 bK J J J,d4 bK J J J,d4 Cw J J J,aT⟩
 ·skip
  obtain⟨x7,x8,x9⟩:=i
  obtain rfl:x7=r.1.2.1:=congrArg (fun q:Bool×Int×Int=>q.1) hi
  obtain rfl:x8=r.1.2.2.1:=congrArg (fun q:Bool×Int×Int=>q.2.1) hi
  obtain rfl:x9=r.1.2.2.2:=congrArg (fun q:Bool×Int×Int=>q.2.2) hi
  have h:=cf h (by rw [hj];rfl);refine(show CG _ _ _ [u3 bd,bx rB 4 b2 r.1.2.1,bx bM 3 b1 r.1.2.2.1,bx bM 3 b r.1.2.2.2] _ from ?_);refine wE (G' :=[(0,tD bB p),(1,bD from1),(2,bj bB p),(4,tV (aF b 0)),(5,tV (aF b1 0)),(6,tV (aF b2 0)),(9,tD bB p),(10,bD from1)]) ?_ ⟨J,J,J,J,J,J,J,J,aT⟩;refine aq ?_;refine aD (M ?_);refine bh<|bR 4 J<|au<|bR 5 J<|bU<|bR 6 J<|s8<|oz ?_;cases so h;exact jE (ts:=[bD r.1.2.2.2,bD r.1.2.2.1,eH r.1.2.1]) (rvs:=[.cell 4 3,.cell 5 3,.cell 6 4]) J J ⟨d4 bK J J J,d4 bK J J J,d4 Cw J J J,aT⟩

theorem Fq(p:bW)(frag:Int){R:Int}(h:lF p frag=some R):bn ba 46 [tD bB p,bD frag] (bD R):=by
 refine bn.of Tryz.func46 J J J fun w0 S0=>ay<|zo J (gY J)<|zo J (d9)<|aw<|af<|ay<|zo J (bz iV J J)<|aH J<|bI h fun r q_r h=>zo J (aK Mv (I0 _ _ q_r) ⟨(ht J),(ht J),aT⟩)<|aH J<|zo J (iU J J)<|zo J (iU J J)<|zo J (iU J J)<|bC J<|bC J<|bC J<|aw<|af ?_;refine am<|aH J<|aw<|dn h J (fun h=>?_) (fun h=>?_)
 ·refine ay<|aH J<|bC J<|aw<|aq<|M ?_;cases so h;exact aW J J
 ·refine dJ<|ay<|zo J (d9)<|aw<|aq ?_;cases so h;exact aW J J

theorem Fp(f:cA)(nodes:Int){R:(List Int)}(h:mJ f nodes=some R):bn ba 47 [tD aN f,bD nodes] (dX R):=by
 refine bn.of Tryz.func47 J J J fun w0 S0=>ay<|zo J (gY J)<|zo J (aP (show aG _ _ _ lQ from ib))<|aw<|af<|ay<|zo J (cr IW DZ J J)<|zo J (bz bK J J)<|zo J (jR J)<|aw<|dn h J (fun h=>?_) (fun h=>?_)
 ·refine ay<|zo J (aR (r:=bM) (ys:=[(0:Int)]) (xs:=[.const (.int .i64 (0))]) dm bK J J J J J ⟨hI,aT⟩)<|bC J<|aw<|aq<|M ?_;cases so h;exact aW J J
 ·refine dJ<|ay<|aH J<|zo J (jf (ht J) hI)<|bI h fun r q_r h=>iu JE (zh _ q_r) ⟨(ht J),aT⟩ J fun l c=>bI h fun y q_y h=>zo J (lG dm bK J (.head _) (ht J) hI q_y)<|kP (.head _) q_y fun hv=>bC J<|aw<|aq<|fY<|yh 4 q_y J<|cB 11 J<|yh 12 q_y J<|aU ?_;cases so h;exact aW J J

theorem Hk(p:bW)(nodes:Int):r0 ba 126 yw (fun _=>rK p nodes) [] [bj bB p,bj bM nodes]:=by
 refine r0.of Tryz.func126 J J J fun Sg yld s R h I yv hy e he w0 S0 B hB=>?_
 replace h:rK p nodes yld s=some R:=h
 refine ay<|zo J (cr gP fC J J)<|zo J (bz nP J J)<|zo J (gV lP J)<|zo J (bA hI)<|aw<|ax<|bf (k:=12) J fun hN=>bF ?_;refine aS (kR (Z:=fun ls i e1 s1=>(p.Frags.drop i=ls)∧I s1 e1∧eE p nodes yld ls i s1=some R) (Of:=fun _ i e1 s1=>[e1]) (Gf:=fun _ i e1 s1=>[(0,tV yv),(1,bj bB p),(2,bj bM nodes),(12,dH (aN) p.Frags),(13,fD p.Frags),(14,bD (i:Int))]) (fun i e1 s1 h=>?_) (fun e2 tl ih i e1 s1 h=>?_) p.Frags 0 e s ⟨J,⟨he,h⟩⟩) (bl J)
 ·obtain⟨hx,h⟩:=h
  obtain⟨he1,h⟩:=h
  refine aA<|ay<|zo J (ej J J)<|aw<|af<|bu (ht J) (c8 hx)<|bk ?_;refine ac (ac (aM ?_));cases so h;exact Ba J he1 hB trivial
 ·obtain⟨hx,h⟩:=h
  obtain⟨he1,h⟩:=h
  refine aA<|ay<|zo J (ej J J)<|aw<|af<|bt (ht J) (cY hx)<|dJ<|af ?_;refine Er (Z:=fun e3 s2=>I s2 e3∧nU (eE p nodes yld tl) i s2=some R) (Of:=fun e3 s2=>[e3]) (Gf:=fun e3 s2=>[(0,tV yv),(1,bj bB p),(2,bj bM nodes),(12,dH (aN) p.Frags),(13,fD p.Frags),(14,bD (i:Int))]) (fun e3 s2 h=>?_) (fun K=>?_)
  ·obtain⟨he2,h⟩:=h
   refine av<|am<|zo rfl (jQ (cI hx hN) rfl)<|aH rfl<|aQ ?_;exact be (aS (ih (i+1) e3 s2 ⟨cH hx,⟨he2,h⟩⟩) (bl J))
  ·skip
   refine ay<|aH J<|zo J (km lP lR J J J (c0 hx))<|zo J (bz lR J J)<|bg (r:=aN) (x:=H5) lR (fun _=>sh _) J fun b=>bC J<|ap lR J aj J (ht J) (ht J)<|bc 5 J<|aw<|ay<|zo J (bz iV J J)<|aH J<|bI h fun r q_r h=>zo J (aK KF (Fq _ _ q_r) ⟨(ht J),(ht J),aT⟩)<|bC J<|aw<|af<|ay<|aH J ?_;refine zo J (eW (ht J) hI)<|aw<|dn h J (fun h=>?_) (fun h=>?_)
   ·refine bk ?_;refine ac (aM ?_);exact cd (K e1 s1 ⟨he1,h⟩) (bl J)
   ·refine dJ<|ay<|zo J (bz lR J J)<|zo J (bz bK J J)<|bI h fun r1 q_r1 h=>zo J (aK KE (Fp _ _ q_r1) ⟨(ht J),(ht J),aT⟩)<|zo J (gV dm J)<|zo J (bA hI)<|aw<|ax<|bf (k:=26) J fun hN1=>bF ?_;refine aS (kR (Z:=fun ls1 i1 e4 s3=>(r1.drop i1=ls1)∧I s3 e4∧iB p nodes yld (eE p nodes yld tl) i r ls1 s3=some R) (Of:=fun _ i1 e4 s3=>[e4]) (Gf:=fun _ i1 e4 s3=>[(0,tV yv),(1,bj bB p),(2,bj bM nodes),(4,bD (i:Int)),(6,bD r),(12,dH (aN) p.Frags),(13,fD p.Frags),(14,bD (i:Int)),(26,dX r1),(27,fD r1),(28,bD (i1:Int))]) (fun i1 e4 s3 h=>?_) (fun e5 tl1 ih1 i1 e4 s3 h=>?_) r1 0 e1 s1 ⟨J,⟨he1,h⟩⟩) (bl J)
    ·obtain⟨hx1,h⟩:=h
     obtain⟨he3,h⟩:=h
     refine aA<|ay<|zo J (ej J J)<|aw<|af<|bu (ht J) (c8 hx1)<|bk ?_;refine ac (ac (aM ?_));refine an ?_;exact cd (K e4 s3 ⟨he3,h⟩) (bl J)
    ·obtain⟨hx1,h⟩:=h
     obtain⟨he3,h⟩:=h
     refine aA<|ay<|zo J (ej J J)<|aw<|af<|bt (ht J) (cY hx1)<|dJ<|af<|ax<|ay<|zo J (km dm bK J J J (c0 hx1))<|zo J (bz bK J J)<|bC J<|aw<|af<|bI h fun e6 q_e6 h=>bI h fun r2 q_r2 h=>?_
     refine eR (ts:=[_,_,_,_,_,_,_,_,_]) mixed J J
      ⟨ek 1 J J J (cr gP fC J J),
      ⟨c9 32 0 J J J (bz nP J J),
      ⟨ek 6 J J J (cL J),
      ⟨eo 33 1 34 2 J J J J (km lP lR J J J q_e6),
      ⟨c9 35 3 J J J (bz lR J J),
      ⟨ek 2 J J J (bz bK J J),
      ⟨eo 36 4 37 5 J J J J (aK KE (Fp _ _ q_r2) ⟨(ht J),(ht J),aT⟩),
      ⟨c9 38 6 J J J (gV dm J),
      ⟨JW J J (bA hI),
      aT⟩⟩⟩⟩⟩⟩⟩⟩⟩ ?_
     refine av<|ax<|bf (k:=38) J fun hN2=>bF ?_;refine aS (kR (Z:=fun ls2 i2 e7 s4=>(r2.drop i2=ls2)∧I s4 e7∧jM yld i r (iB p nodes yld (eE p nodes yld tl) i r tl1) e5 ls2 s4=some R) (Of:=fun _ i2 e7 s4=>[e7]) (Gf:=fun _ i2 e7 s4=>[(0,tV yv),(1,bj bB p),(2,bj bM nodes),(4,bD (i:Int)),(6,bD r),(8,bD e5),(12,dH (aN) p.Frags),(13,fD p.Frags),(14,bD (i:Int)),(26,dX r1),(27,fD r1),(28,bD (i1:Int)),(38,dX r2),(39,fD r2),(40,bD (i2:Int))]) (fun i2 e7 s4 h=>?_) (fun e8 tl2 ih2 i2 e7 s4 h=>?_) r2 0 e4 s3 ⟨J,⟨he3,h⟩⟩) (bl J)
     ·obtain⟨hx2,h⟩:=h
      obtain⟨he4,h⟩:=h
      refine aA<|ay<|zo J (ej J J)<|aw<|af<|bu (ht J) (c8 hx2)<|bk ?_;refine ac (ac (aM ?_));refine an<|av<|am<|zo rfl (jQ (cI hx1 hN1) rfl)<|aH rfl<|aQ ?_;exact be (aS (ih1 (i1+1) e7 s4 ⟨cH hx1,⟨he4,h⟩⟩) (bl J))
     ·obtain⟨hx2,h⟩:=h
      obtain⟨he4,h⟩:=h
      refine aA<|ay<|zo J (ej J J)<|aw<|af<|bt (ht J) (cY hx2)<|dJ<|af<|ax<|ay<|zo J (km dm bK J J J (c0 hx2))<|zo J (bz bK J J)<|bC J<|aw<|ay<|aH J<|aH J<|aH J ?_;refine aH J<|zo J (cy (y:=(⟨(i:Int),e5,e8⟩:aV)) mE Mm od (⟨_,_,_,_,_,J,Aa,J,(ht J),⟨_,_,_,_,_,J,z8,J,(ht J),⟨_,_,_,_,_,J,z7,J,(ht J),J⟩⟩⟩))<|aH J<|bI h fun r3 q_r3 h=>wx hy he4 q_r3 (ht J) ⟨(ht J),(ht J),aT⟩ J fun e9 he5=>zo J (d8 (ht J))<|aw<|dn h J (fun h=>?_) (fun h=>?_)
      ·refine aq ?_;refine aD (M (M (aD (aD (M (M (aD (aD (M (M (aD ?_)))))))))));cases so h;exact zB J he5 hB trivial
      ·refine bE<|an<|av<|am<|zo rfl (jQ (cI hx2 hN2) rfl)<|aH rfl<|aQ ?_;exact be (aS (ih2 (i2+1) e9 r3.2 ⟨cH hx2,⟨he5,h⟩⟩) (bl J))

theorem GI(p:bW)(nodes:Int){R:It (aV×Int)}(h:su p nodes=some R):rX ba 83 [tD bB p,bD nodes] yw R:=by
 refine rX.of Tryz.func83 J J J fun w0 S0=>ay<|zo J (gY J)<|zo J (gY J)<|zo J (aP hV)<|aw<|ay<|uK (O1:=[]) (cts:=[bj bB p,bj bM nodes]) (caps:=[.tmp 2,.tmp 3]) J LF (Hk p nodes) ⟨(ht J),(ht J),aT⟩ J fun v fp=>bC J<|aw<|aq ?_;cases so h;exact A8 J J

theorem B7(p:bW)(nodes:Int)(holds:(aV→Int→Option Bool)){R:(List aV)}(h:mq p nodes holds=some R):bn ba 48 [tD bB p,bD nodes,(eN ba yw jX (fun(x:aV×Int)=>holds x.1 x.2))] (dH (bv) R):=by
 refine ww Tryz.func48 J J J fun w0 S0=>ay<|zo J (gY J)<|zo J (yW (ht J))<|zo J (aP (show aG _ _ _ Bm from ib))<|aw<|ay<|bQ false bv 52<|bg (x:=aC none 0 0) Gl (fun _=>E1) J fun b=>aw<|af<|ay<|zo J (bz iV J J)<|aH J<|bI h fun it q_it h=>yb Mu (GI _ _ q_it) ⟨(ht J),(ht J),aT⟩ J fun v fp=>aw<|ax ?_
 obtain⟨s,q_s,h⟩:=bs h
 refine Eo (fun(i:Option Nat×Nat×List aV)=>[bx rV 46 b (aC i.1 i.2.1 i.2.2.length),ee bv 52 i.1 i.2.1 i.2.2]) (fun(i:Option Nat×Nat×List aV)=>(i.2.2)) J (ht J) (none,0,([]:List aV)) J q_s (fun _=>J) J (fun i x s2 h lp rec1 _ _ _=>?_) (fun i hi bd=>?_)
 ·obtain⟨l,c,xs⟩:=i
  replace h:f9 holds x xs=some s2:=h
  refine(show CG _ _ _ [oT lp rec1 .ready,bx rV 46 b (aC l c xs.length),ee bv 52 l c xs] _ from ?_);refine wE (G' :=[(0,tD bB p),(1,bD nodes),(2,(eN ba yw jX (fun(x:aV×Int)=>holds x.1 x.2))),(3,bj bB p),(5,bj (rT ((eN ba yw jX (fun(x:aV×Int)=>holds x.1 x.2)))) ()),(6,dH (bv) ([])),(7,tV (aF b 0)),(10,tD bB p),(11,bD nodes),(13,tD bv x.1),(14,bD x.2)]) ?_ ⟨J,J,J,J,J,J,J,J,J,J,J,aT⟩;refine ay<|bg (r:=bv) (x:=Gi) mE (fun _=>od _) J fun b1=>ap mE J aj J (ht J) (ht J)<|bc 8 J<|aw<|am<|bC J<|aQ<|F7<|ax<|ay<|zo J (sx Kd (ht J))<|zo J (bz mE J J)<|aH J<|bI h fun r q_r h=>zo J (gc (args:=(fun(x:aV×Int)=>[tD bv x.1,tD bM x.2])) (res:=Bn) (f:=(fun(x:aV×Int)=>holds x.1 x.2)) (x:=((x.1,x.2):aV×Int)) (ht J) q_r ⟨(ht J),(ht J),aT⟩)<|aw<|dn h J (fun h=>?_) (fun h=>?_)
  ·refine am<|zo J (lI Gl (.tail _ (.head _)) (ht J))<|zo J (bz mE J J)<|zo J (aR (r:=bv) (ys:=[x.1]) (xs:=[.tmp 20]) uQ mE J J J J J ⟨(ht J),aT⟩)<|dr<|bI h fun l1 q_l1 h=>cT mE J J J J uQ J J (ht J) (ht J) q_l1 fun l2 c1=>dr<|ap Gl J aj J (ht J) (Ga (ht J))<|aQ<|an<|bU<|bU<|au ?_;exact uN (l2,c1,l1) (so h) J
  ·refine bE<|an ?_;exact uN (l,c,xs) (so h) J
 ·skip
  obtain⟨l3,c2,xs1⟩:=i
  have hi:xs1=s:=hi
  subst hi
  refine(show AT _ _ _ [u3 bd,bx rV 46 b (aC l3 c2 xs1.length),ee bv 52 l3 c2 xs1] _ from ?_);refine cd (G' :=[(0,tD bB p),(1,bD nodes),(2,(eN ba yw jX (fun(x:aV×Int)=>holds x.1 x.2))),(3,bj bB p),(5,bj (rT ((eN ba yw jX (fun(x:aV×Int)=>holds x.1 x.2)))) ()),(6,dH (bv) ([])),(7,tV (aF b 0)),(10,tD bB p),(11,bD nodes)]) ?_ ⟨J,J,J,J,J,J,J,J,J,aT⟩;refine an<|av<|ay<|zo rfl (lI Gl (.tail _ (.head _)) (ht rfl))<|bC rfl<|aw<|aq<|au<|fY<|cB 6 rfl<|cB 23 rfl<|gS 6 rfl<|aU<|bU<|aU<|s8<|oz ?_;cases so h;exact aW J J

theorem Ja(p:aV)(p1:Int){R:Bool}(h:qc p p1=some R):bn ba 49 [tD bv p,bD p1] (eH R):=by
 refine bn.of Tryz.func49 J J J fun w0 S0=>ay<|zo J (gY J)<|zo J (eZ)<|aw<|ay<|zo J (eZ)<|aw<|aq ?_;cases so h;exact aW J J

theorem Fv(p:bW)(nodes:Int){R:(List aV)×Int}(h:hG p nodes=some R):bn ba 17 [tD bB p,bD nodes] (tT [dH (bv) R.1,bD R.2]):=by
 refine bn.of Tryz.func17 J J J fun w0 S0=>ay<|zo J (gY J)<|zo J (aP (show aG _ _ _ Bm from ib))<|zo J (d9)<|aw<|af<|ay<|zo J (bz iV J J)<|aH J<|bI h fun r q_r h=>zo J (aK Hv (zj _ _ _ q_r) ⟨(ht J),hI,(ht J),aT⟩)<|bC J<|aw<|ay<|aH J<|zo J (yr J)<|aw ?_;refine dn h J (fun h=>?_) (fun h=>?_)
 ·refine ay<|aH J<|zo J (aP (show aG _ _ _ Bm from ib))<|bC J<|aw<|aq<|M ?_;cases so h;exact cv J J J
 ·refine dJ<|ay<|zo J (bz iV J J)<|aH J<|bI h fun r1 q_r1 h=>zo J (aK JH (B7 _ _ _ q_r1) ⟨(ht J),(ht J),(IK MN fun x y h=>Ja _ _ h),aT⟩)<|bC J<|zo J (d9)<|aw<|aq ?_;cases so h;exact cv J J J

theorem Jh{R:ff}(h:ux=some R):bn ba 29 [] (tD dU R):=by
 refine bn.of Tryz.func29 J J J fun w0 S0=>ay<|bg (r:=dU) (x:=(⟨[]⟩:ff)) Bt (fun _=>ru _) J fun b=>aw<|ay<|zo J (cy (y:=H2) nh IN mp (⟨_,_,_,_,_,J,pV,J,hS,⟨_,_,_,_,_,J,pU,J,hI,J⟩⟩))<|zo J (cy (y:=H3) nh IN mp (⟨_,_,_,_,_,J,pV,J,hS,⟨_,_,_,_,_,J,pU,J,hI,J⟩⟩))<|zo J (aR (r:=cR) (ys:=[H2,H3]) (xs:=[.tmp 1,.tmp 2]) tg nh J J J J J ⟨(ht J),(ht J),aT⟩)<|zo J (aR (r:=bM) (ys:=[(0:Int)]) (xs:=[.const (.int .i64 (0))]) dm bK J J J J J ⟨hI,aT⟩)<|zo J (cy (y:=Ih) rz Kk vy (⟨_,_,_,_,_,J,vL,J,hS,⟨_,_,_,_,_,J,vK,J,(ht J),⟨_,_,_,_,_,J,By,J,(ht J),J⟩⟩⟩))<|zo J (cy (y:=H7) nh IN mp (⟨_,_,_,_,_,J,pV,J,hS,⟨_,_,_,_,_,J,pU,J,hI,J⟩⟩))<|zo J (aR (r:=cR) (ys:=[H7]) (xs:=[.tmp 6]) tg nh J J J J J ⟨(ht J),aT⟩)<|zo J (cy (y:=H4) rz Kk vy (⟨_,_,_,_,_,J,vL,J,hS,⟨_,_,_,_,_,J,vK,J,(ht J),J⟩⟩))<|zo J (aR (r:=cW) (ys:=[Ih,H4]) (xs:=[.tmp 5,.tmp 8]) ym rz J J J J J ⟨(ht J),(ht J),aT⟩)<|zo J (cy (y:=(⟨[Ih,H4]⟩:ff)) Bt Mn ru (⟨_,_,_,_,_,J,yM,J,(ht J),J⟩))<|ap Bt J aj J (ht J) (ht J)<|bc 0 J<|aw<|aq ?_;cases so h;exact iy J Bt J J J

theorem Kp{R:Bool}(h:qi=some R):bn ba 8 [] (eH R):=by
 refine bn.of Tryz.func8 J J J fun w0 S0=>ay<|zo J (eZ)<|aw<|ay<|zo J (aR (r:=bM) (ys:=[(2:Int)]) (xs:=[.const (.int .i64 (2))]) dm bK J J J J J ⟨hI,aT⟩)<|zo J (cy (y:=Im) cE GC gG (⟨_,_,_,_,_,J,oM,J,hI,⟨_,_,_,_,_,J,k7,J,hI,⟨_,_,_,_,_,J,jY,J,hI,⟨_,_,_,_,_,J,rF,J,hI,⟨_,_,_,_,_,J,oL,J,(ht J),J⟩⟩⟩⟩⟩))<|zo J (cy (y:=H0) lC Kl tk (⟨_,_,_,_,_,J,Ac,J,hI,J⟩))<|zo J (aR (r:=dc) (ys:=[H0]) (xs:=[.tmp 8]) nf lC J J J J J ⟨(ht J),aT⟩)<|zo J (cy (y:=Io) cE GC gG (⟨_,_,_,_,_,J,oM,J,hI,⟨_,_,_,_,_,J,jY,J,hI,⟨_,_,_,_,_,J,vM,J,(ht J),J⟩⟩⟩))<|zo J (aR (r:=ak) (ys:=[Im,Io]) (xs:=[.tmp 7,.tmp 10]) iq cE J J J J J ⟨(ht J),(ht J),aT⟩)<|zo J (cy (y:=LR) lD IQ lB (⟨_,_,_,_,_,J,Bz,J,(ht J),J⟩))<|bg (r:=cq) (x:=zL) lD (fun _=>lB _) J fun b=>ap lD J aj J (ht J) (ht J)<|bc 1 J<|aw<|af<|bI h fun r q_r h=>bI h fun r1 q_r1 h=>?_
 refine fg 8 [tc (tD cq LR),tc (tD dU r),tc (tT [tD bB r1.1,bD r1.2]),tc (tT [tD bB r1.1,bD r1.2]),tc (tD bB r1.1),tc (bD r1.2),([6],fun s=>tV (aF ((s.getD 0 kp).h 0).2 0)),tc (sj)] [false,false,false,false,false,false,true,true] [fun _=>[],fun sg=>[bx bB 33 ((sg 6).h 0).2 oE],fun sg=>[bx bB 33 ((sg 6).h 0).2 r1.1]] J mixed J J J J J
  ⟨⟨[⟨1,fun _=>bj cq LR,none⟩],_,0,1,J,⟨(fun _=>J),aT⟩,J,J,J,J,J,fun _ sg _ _=>ae J (bz lD J J)⟩,
  ⟨⟨[],_,0,1,J,aT,J,J,J,J,J,fun _ sg _ _=>ae J (aK MU (Jh q_r) trivial)⟩,
  ⟨⟨[⟨14,fun _=>tD cq LR,some 0⟩,⟨15,fun _=>tD dU r,some 1⟩],_,0,1,J,⟨(fun _=>J),(fun _=>J),aT⟩,J,J,J,J,J,fun _ sg _ _=>ae J (aK M1 (Jy _ _ q_r1) ⟨(ht J),(ht J),aT⟩)⟩,
  ⟨⟨[⟨16,fun _=>tT [tD bB r1.1,tD bM r1.2],some 2⟩],_,0,1,J,⟨(fun _=>J),aT⟩,J,J,J,J,J,fun _ sg _ _=>ae J (cL J)⟩,
  ⟨⟨[⟨13,fun _=>tT [tD bB r1.1,tD bM r1.2],some 3⟩],_,0,1,J,⟨(fun _=>J),aT⟩,J,J,J,J,J,fun _ sg _ _=>ae J (iU J J)⟩,
  ⟨⟨[⟨13,fun _=>tT [tD bB r1.1,tD bM r1.2],some 3⟩],_,0,2,J,⟨(fun _=>J),aT⟩,J,J,J,J,J,fun _ sg _ _=>ae J (iU J J)⟩,
  ⟨⟨[],_,J,aT,J,J,J,fun sg=>bS J (ei (r:=bB) (x:=oE) iV (fun _=>oD _))⟩,
  ⟨⟨[⟨2,fun sg=>tV (aF ((sg 6).h 0).2 0),some 6⟩,⟨17,fun _=>tD bB r1.1,some 4⟩],_,J,⟨(fun _=>J),(fun _=>J),aT⟩,J,J,J,fun sg=>bS J (ig iV J (oK aj) J (ht J) (ht J))⟩,
  aT⟩⟩⟩⟩⟩⟩⟩⟩ (fun sg=>?_)
 refine(show RG _ _ _ _ [bx bB 33 ((sg 6).h 0).2 r1.1] _ from ?_);refine bc 2 J<|bC J<|aw<|ay<|zo J (bz iV J J)<|bI h fun r2 q_r2 h=>zo J (aK Lp (Fv _ _ q_r2) ⟨(ht J),hI,aT⟩)<|aH J<|zo J (iU J J)<|zo J (iU J J)<|bC J<|bC J<|aw<|ay<|aH J<|zo J (jR J)<|aH J<|co J J (fun hg=>cL J)<|co J J (fun hg=>cj (bq J hg) hI)<|zo J (mv J J) ?_;refine aH J<|co J J (fun hg=>cr gP fC J J)<|co J J (fun hg=>bp nP J J (bq J hg))<|co J J (fun hg=>ca lP (bq J hg))<|co J J (fun hg=>cj (bq J hg) hI)<|zo J (mv J J)<|aH J<|bI h fun t q_t h=>co J J (fun hg=>cr gP fC J J)<|co J J (fun hg=>bp nP J J (bq J hg)) ?_
 obtain⟨e,h1t,h0t⟩:=og q_t
 have q_eg:=fun hb=>(h1t hb).1
 refine co J J (fun hg=>aO lP lR J (bq J hg) hI (q_eg hg))<|co J J (fun hg=>hJ wk J ov J (bq J hg))<|co J J (fun hg=>bp k5 J J (bq J hg))<|co J J (fun hg=>ca iq (bq J hg))<|co J J (fun hg=>cj (bq J hg) hI)<|zo J (dZ (ht J) (fun hb=>(bq J hb)) (fun hb=>(h1t hb).2) h0t)<|aH J<|bI h fun t1 q_t1 h=>co J J (fun hg=>cr gP fC J J)<|co J J (fun hg=>bp nP J J (bq J hg)) ?_
 obtain⟨e1,h1t1,h0t1⟩:=og q_t1
 have q_e1g:=fun hb=>(h1t1 hb).1
 refine co J J (fun hg=>aO lP lR J (bq J hg) hI (q_e1g hg))<|co J J (fun hg=>hJ wk J ov J (bq J hg))<|co J J (fun hg=>bp k5 J J (bq J hg)) ?_
 obtain⟨e2,h1t1⟩:=JP (fun hb=>(h1t1 hb).2)
 have q_e2g:=fun hb=>(h1t1 hb).1
 refine co J J (fun hg=>aO iq cE J (bq J hg) hI (q_e2g hg))<|co J J (fun hg=>hJ qr J j8 J (bq J hg))<|co J J (fun hg=>bp bK J J (bq J hg))<|co J J (fun hg=>cj (bq J hg) hI)<|zo J (dZ (ht J) (fun hb=>(bq J hb)) (fun hb=>(h1t1 hb).2) h0t1)<|aH J<|co J J (fun hg=>cL J)<|co J J (fun hg=>ca uQ (bq J hg))<|co J J (fun hg=>cj (bq J hg) hI)<|zo J (mv J J)<|bC J<|aw<|aq ?_;cases so h;exact aW J J

theorem Jv(p:bW)(frag:Int){R:Int×Int}(h:nu p frag=some R):bn ba 14 [tD bB p,bD frag] (tT [bD R.1,bD R.2]):=by
 refine bn.of Tryz.func14 J J J fun w0 S0=>ay<|zo J (gY J)<|zo J (d9)<|zo J (d9)<|aw<|af<|ay<|zo J (bz iV J J)<|aH J<|bI h fun r q_r h=>zo J (aK Hv (zj _ _ _ q_r) ⟨(ht J),(ht J),hI,aT⟩)<|bC J<|aw<|ay<|aH J<|zo J (yr J)<|aw ?_;refine dn h J (fun h=>?_) (fun h=>?_)
 ·refine ay<|aH J<|zo J (d9)<|bC J<|aw<|aq<|M ?_;cases so h;exact cv J J J
 ·refine dJ<|ay<|zo J (bz iV J J)<|aH J<|bI h fun r1 q_r1 h=>zo J (aK KF (Fq _ _ q_r1) ⟨(ht J),(ht J),aT⟩)<|bC J<|zo J (d9)<|aw<|aq ?_;cases so h;exact cv J J J

theorem B8(e:bw){R:Bool}(h:gM e=some R):bn ba 30 [tD br e] (eH R):=by
 refine bn.of Tryz.func30 J J J fun w0 S0=>ay<|zo J (gY J)<|zo J (eZ)<|aw<|af<|ay<|zo J (cr dW cC J J)<|zo J (bz jG J J)<|zo J (gV iT J)<|zo J (eX (ht J) hI)<|aw<|dn h J (fun h=>?_) (fun h=>?_)
 ·refine ay<|zo J (eZ)<|aw<|aq<|M ?_;cases so h;exact aW J J
 ·refine dJ<|af<|ay<|zo J (cr dW cC J J)<|zo J (bz jG J J)<|zo J (gV iT J)<|zo J (bA hI)<|aw<|ax<|bf (k:=10) J fun hN=>bF ?_;refine aS (dS (Z:=fun ls i=>(e.Nodes.drop i=ls)∧gj ls=some R) (Of:=fun _ i=>[]) (Gf:=fun _ i=>[(10,dH (aY) e.Nodes),(11,fD e.Nodes),(12,bD (i:Int))]) (fun i h=>?_) (fun e1 tl ih i h=>?_) e.Nodes 0 ⟨J,h⟩) (bl J)
  ·obtain⟨hx,h⟩:=h
   refine aA<|ay<|zo J (ej J J)<|aw<|af<|bu (ht J) (c8 hx)<|bk ?_;refine ac (ac (aM ?_));refine av<|ay<|zo rfl (eZ)<|aw<|aq ?_;cases so h;exact aW J J
  ·obtain⟨hx,h⟩:=h
   refine aA<|ay<|zo J (ej J J)<|aw<|af<|bt (ht J) (cY hx)<|dJ<|af<|ax<|ay<|zo J (km iT da J J J (c0 hx))<|zo J (bz da J J)<|bg (r:=aY) (x:=zK) da (fun _=>kw _) J fun b=>ap da J aj J (ht J) (ht J)<|bc 4 J<|aw<|ay<|zo J (cr sN mU J J) ?_;refine zo J (cr zf rO J J)<|zo J (bz Dp J J)<|zo J (yU ip (ht J))<|zo J (eX (ht J) hI)<|aw<|dn h J (fun h=>?_) (fun h=>?_)
   ·refine ay<|zo J (eZ)<|aw<|aq ?_;refine aD (M (M (aD (M ?_))));cases so h;exact aW J J
   ·refine bE<|an<|av<|am<|zo rfl (jQ (cI hx hN) rfl)<|aH rfl<|aQ ?_;exact be (aS (ih (i+1) ⟨cH hx,h⟩) (bl J))

end Go.Proofs.YtnmjbolollcokaaGreatDoor

