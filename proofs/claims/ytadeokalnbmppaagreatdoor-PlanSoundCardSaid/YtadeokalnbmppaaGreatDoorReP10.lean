import Derived.Test.YtadeokalnbmppaaGreatDoorReT
import Derived.Test.YtadeokalnbmppaaGreatDoorReP9
set_option linter.all false
namespace Go.Proofs.YtadeokalnbmppaaGreatDoor
open Go Tryz
set_option maxRecDepth 100000
def abH{R}(h:Fv=some R):cN aL 12 [] (tD eH R):=by
 exact dL func12 J<|aV<|aO Cb yL J fun b=>bA<|aV<|M (dl (y:=ZW) uX aaR sF (⟨_,_,_,_,_,J,Ae,J,hS,⟨_,_,_,_,_,J,Ad,J,hI,J⟩⟩))<|M (dl (y:=ZX) uX aaR sF (⟨_,_,_,_,_,J,Ae,J,hS,⟨_,_,_,_,_,J,Ad,J,hI,J⟩⟩))<|M (aI (r:=ev) (ys:=[ZW,ZX]) (xs:=[.tmp 1,.tmp 2]) yI uX J J J J J ⟨(Y J),(Y J),aW⟩)<|M (aI (r:=bY) (ys:=[0]) (xs:=[.const (.int .i64 (0))]) dI bN J J J J J ⟨hI,aW⟩)<|M (dl (y:=aac) yR acW CS (⟨_,_,_,_,_,J,G5,J,hS,⟨_,_,_,_,_,J,G4,J,(Y J),⟨_,_,_,_,_,J,Pd,J,(Y J),J⟩⟩⟩))<|M (dl (y:=ZY) uX aaR sF (⟨_,_,_,_,_,J,Ae,J,hS,⟨_,_,_,_,_,J,Ad,J,hI,J⟩⟩))<|M (aI (r:=ev) (ys:=[ZY]) (xs:=[.tmp 6]) yI uX J J J J J ⟨(Y J),aW⟩)<|M (dl (y:=Z1) yR acW CS (⟨_,_,_,_,_,J,G5,J,hS,⟨_,_,_,_,_,J,G4,J,(Y J),J⟩⟩))<|M (aI (r:=fD) (ys:=[aac,Z1]) (xs:=[.tmp 5,.tmp 8]) Bs yR J J J J J ⟨(Y J),(Y J),aW⟩)<|M (dl (y:=(⟨[aac,Z1]⟩:bo)) Cb ae7 yL (⟨_,_,_,_,_,J,Kz,J,(Y J),J⟩))<|bv Cb ae J<|aH 0 J<|bO<|so h▸gF J Cb J J J
def abx p w_ A'{R}(h:Hn p w_ A'=some R):cN aL 29 [tD cw p,bX w_,bX A'] (bX R):=by
 refine dL func29 J<|aV<|cR J<|cM<|bA<|bc<|bg jz fv qY J<|cm pH J<|M (fR (Y J) hI)<|aQ J<|aC J (cY J)<|aC J (fun H=>gA (br J H) hI)<|fV J<|aQ J<|aC J (cY J)<|aC J (cZ jz fv J J)<|aC J (cG qY J J)<|aC J (fM pH J)<|aC J (fun H=>eT (br J H) (br J H)) ?_;refine fV J<|aQ J<|aC J (cY J)<|aC J (fun H=>gA (br J H) hI)<|fV J<|aQ J<|aC J (cY J)<|aC J (fun H=>fR (br J H) hI)<|fV J<|cD h J (fun h=>?_) (fun h=>?_)
 ·exact aV<|jK<|ai<|so h▸aD J J
 ·exact kp<|aV<|jK<|so h▸aD J J
def Yv(p:dp)(j_:Int):CD aL 138 (fun(x:Int×Int)=>[bX x.1,bX x.2]) (fun _=>xG p j_) [] [aY cw p,aY bY j_]:=by
 refine CD.of func138 J J J fun Sg D_ s R h hx yv hy e he w0 S0 B hB=>?_
 replace h:xG p j_ D_ s=some R:=h
 refine aV<|bg jz fv qY J<|cm pH J<|M (bH hI)<|bA<|am<|aR (k:=9) J fun hN=>bE ?_;refine aE (ox (h3:=fun ls i e1 s1=>(p.J'.drop i=ls)/\hx s1 e1/\ne j_ D_ ls i s1=some R) (Of:=fun _ i e1 s1=>[e1]) (Gf:=fun _ i e1 s1=>[(0,tV yv),(2,aY bY j_),(9,fI (bk) p.J'),(10,jg p.J'),(11,bX (i:Int))]) (fun i e1 s1 h=>?_) (fun e2 tl ih i e1 s1 h=>?_) p.J' 0 e s ⟨J,⟨he,h⟩⟩) (aX J)
 ·obtain⟨I,h⟩:=h;obtain⟨he1,h⟩:=h;exact dH I J<|so h▸Oz J he1 hB trivial
 ·obtain⟨I,h⟩:=h;obtain⟨he1,h⟩:=h;refine dG I J<|aw<|am<|aB J<|dN pH nP J (dE I)<|aO nP td J fun b=>fX J<|bv nP ae J<|aH 5 J<|bA<|aw ?_;refine au<|bg tJ mz o5 J<|cm kw J<|M (bH hI)<|bA<|am<|aR (k:=17) J fun hN1=>bE ?_;refine aE (ox (h3:=fun ls1 i1 e3 s2=>(e2.u'.drop i1=ls1)/\hx s2 e3/\nd j_ D_ (ne j_ D_ tl) i ls1 i1 s2=some R) (Of:=fun _ i1 e3 s2=>[e3]) (Gf:=fun _ i1 e3 s2=>[(0,tV yv),(2,aY bY j_),(4,bX (i:Int)),(9,fI (bk) p.J'),(10,jg p.J'),(11,bX (i:Int)),(17,fI (al) e2.u'),(18,jg e2.u'),(19,bX (i1:Int))]) (fun i1 e3 s2 h=>?_) (fun e4 tl1 ih1 i1 e3 s2 h=>?_) e2.u' 0 e1 s1 ⟨J,⟨he1,h⟩⟩) (aX J)
  ·obtain⟨m_,h⟩:=h;obtain⟨he2,h⟩:=h;refine dH m_ J<|dg I hN J ?_;exact aT (aE (ih (i+1) e3 s2 ⟨cV I,⟨he2,h⟩⟩) (aX J))
  ·obtain⟨m_,h⟩:=h;obtain⟨he2,h⟩:=h;refine dG m_ J<|aw<|am<|aB J<|dN kw dc J (dE m_)<|aO dc fC J fun b1=>fX J<|bv dc ae J<|aH 7 J<|bA<|aw ?_;refine au<|bg jy dA bN J<|cz J<|aQ J<|aj J (cZ oM gC J J)<|aj J (cG bN J J)<|aj J (fun H=>m9 bN J J)<|aj J (fun H=>fc (br J H) (br J H))<|dx J<|aQ J ?_;refine N9 ((e4.Op==9)&&(e4.M'==j_)) (fun H=>?_) (fun H=>?_)
   ·have h:=ct h H;refine DW J J J H<|aQ J<|DW J J J H<|aQ J<|DW J J J H<|aQ J<|DW J J J H<|cy h fun r F_ h=>H4 hy he2 F_ (Y J) ⟨(Y J),(Y J),aW⟩ J fun e5 he3=>DW J J J H<|M (gz (Y J))<|M (EB (Y J) H (Y J))<|cD h J (fun h=>?_) (fun h=>?_)
    ·exact kM<|dB<|ai<|py<|dB<|ai<|py<|so h▸LJ J he3 hB trivial
    ·refine bl<|dg m_ hN1 J ?_;exact aT (aE (ih1 (i1+1) e5 r.2 ⟨cV m_,⟨he3,h⟩⟩) (aX J))
   ·have h:=cf h H;refine sD J J J H J<|sD J J J H J<|sD J J J H J<|sD J J J H J<|sD J J J H J<|M (Jp (Y J) H hBc)<|bA<|qC (Y J) (fun hc=>?_) (fun hc=>?_)
    ·cases hc
    ·refine bl<|dg m_ hN1 J ?_;exact aT (aE (ih1 (i1+1) e3 s2 ⟨cV m_,⟨he2,h⟩⟩) (aX J))
def RJ p j_{R}(h:u4 p j_=some R):CA aL 86 [tD cw p,bX j_] (fun(x:Int×Int)=>[bX x.1,bX x.2]) R:=by
 exact CA.of func86 J J J fun w0 S0=>aV<|cR J<|cR J<|M (bL hV)<|bA<|aV<|FM (O1:=[]) (cts:=[aY cw p,aY bY j_]) (L_:=[.tmp 2,.tmp 3]) J aea (Yv p j_) ⟨(Y J),(Y J),aW⟩ J fun v fp=>bz J<|so h▸Ox J J
def VU p j_{R}(h:u6 p j_=some R):cN aL 94 [tD cw p,bX j_] (tT [bX R.1,bX R.2.1,gp R.2.2]):=by
 refine DU func94 J J J fun w0 S0=>aV<|cR J<|aO (r:=bY) (x:=0) bN (fun _=>J) J fun b=>aO (r:=bY) (x:=0) bN (fun _=>J) J fun b1=>aO (r:=rB) (x:=false) I0 (fun _=>J) J fun b2=>bA<|bc<|cx qG J<|aQ J<|cy h fun it q_it h=>EQ adu (RJ _ _ q_it) ⟨(Y J),(Y J),aW⟩ J fun v fp=>bA<|am<|cy h fun r F_ h=>acj ?_;refine J2 (fun(i:Bool×Int×Int)=>[bx rB 4 b2 i.1,bx bY 3 b1 i.2.1,bx bY 3 b i.2.2]) (fun(i:Bool×Int×Int)=>(i.1,i.2.1,i.2.2)) (fun _=> .ret) J (Y J) (false,0,0) J F_ (fun _=>J) J (fun i x r1 h lp rec1 _ _ _=>?_) (fun i j hi bd=>⟨fun hj=>?_,fun _ hj=>?_⟩)
 ·obtain⟨x1,x2,x3⟩:=i
  replace h:An x x1 x2 x3=some r1:=h
  refine(show CG _ _ _ [vN lp rec1 .ready none,bx rB 4 b2 x1,bx bY 3 b1 x2,bx bY 3 b x3] _ from ?_);refine ET (G' :=[(0,tD cw p),(1,bX j_),(2,aY cw p),(4,tV (an b 0)),(5,tV (an b1 0)),(6,tV (an b2 0)),(9,tD cw p),(10,bX j_),(12,bX x.1),(13,bX x.2)]) ?_ ⟨J,J,J,J,J,J,J,J,J,J,aW⟩;refine aV<|aU J<|au<|fX J<|bm<|J8<|am<|aB J<|aQ J<|eh<|bv bN ae J<|eh<|bv bN ae J<|eh<|dZ I0 J ae J (Y J) hB<|bO<|py ?_;exact ah<|ah<|ah<|aM<|so h▸D6 0 J (true,x.2,x.1) J J
 ·skip;obtain⟨x4,x5,x6⟩:=i;obtain rfl:x4=r.1.2.1:=congrArg (fun q:Bool×Int×Int=>q.1) hi;obtain rfl:x5=r.1.2.2.1:=congrArg (fun q:Bool×Int×Int=>q.2.1) hi;obtain rfl:x6=r.1.2.2.2:=congrArg (fun q:Bool×Int×Int=>q.2.2) hi;have h:=ct h (by rw [hj];rfl);refine(show AT _ _ _ [Gb bd,bx rB 4 b2 r.1.2.1,bx bY 3 b1 r.1.2.2.1,bx bY 3 b r.1.2.2.2] _ from ?_);refine bQ (G' :=[(0,tD cw p),(1,bX j_),(2,aY cw p),(4,tV (an b 0)),(5,tV (an b1 0)),(6,tV (an b2 0)),(9,tD cw p),(10,bX j_)]) ?_ ⟨J,J,J,J,J,J,J,J,aW⟩;exact bf<|ax<|aV<|eh<|dZ bN J ae J (Y J) hI<|eh<|dZ bN J ae J (Y J) hI<|eh<|dZ I0 J ae J (Y J) hB<|bO<|ah<|ce 4 J<|bj<|ce 5 J<|ce 6 J<|zB<|tX<|so h▸rj (ts:=[bX 0,bX 0,gp false]) (rvs:=[.cell 4 3,.cell 5 3,.cell 6 4]) J J ⟨jP bN J J J,jP bN J J J,jP I0 J J J,aW⟩
 ·skip;obtain⟨x7,x8,x9⟩:=i;obtain rfl:x7=r.1.2.1:=congrArg (fun q:Bool×Int×Int=>q.1) hi;obtain rfl:x8=r.1.2.2.1:=congrArg (fun q:Bool×Int×Int=>q.2.1) hi;obtain rfl:x9=r.1.2.2.2:=congrArg (fun q:Bool×Int×Int=>q.2.2) hi;have h:=cf h (by rw [hj];rfl);refine(show CG _ _ _ [Gb bd,bx rB 4 b2 r.1.2.1,bx bY 3 b1 r.1.2.2.1,bx bY 3 b r.1.2.2.2] _ from ?_);refine ET (G' :=[(0,tD cw p),(1,bX j_),(2,aY cw p),(4,tV (an b 0)),(5,tV (an b1 0)),(6,tV (an b2 0)),(9,tD cw p),(10,bX j_)]) ?_ ⟨J,J,J,J,J,J,J,J,aW⟩;exact kM<|dB<|aM<|ce 4 J<|ah<|ce 5 J<|bj<|ce 6 J<|zB<|tX<|so h▸rj (ts:=[bX r.1.2.2.2,bX r.1.2.2.1,gp r.1.2.1]) (rvs:=[.cell 4 3,.cell 5 3,.cell 6 4]) J J ⟨jP bN J J J,jP bN J J J,jP I0 J J J,aW⟩
def YC p w_{R}(h:Fn p w_=some R):cN aL 127 [tD cw p,bX w_] (bX R):=by
 refine dL func127 J<|aV<|cR J<|cM<|bA<|bc<|cx qG J<|aQ J<|eG h adt (VU _ _) (cA J) fun r h=>aQ J<|dq J J<|dq J J<|dq J J<|fX J<|fX J<|aU J<|aw ?_;refine au<|aQ J<|cD h J (fun h=>?_) (fun h=>?_)
 ·exact aB J<|bz J<|ai<|so h▸aD J J
 ·exact kp<|aV<|jK<|so h▸aD J J
def RU f A'{R}(h:Cn f A'=some R):cN aL 128 [tD bk f,bX A'] (gM R):=by
 refine dL func128 J<|aV<|cR J<|lU bY<|bA<|bc<|bg AH sS bN J<|cz J<|cD h J (fun h=>?_) (fun h=>?_)
 ·exact aV<|M (aI (r:=bY) (ys:=[0]) (xs:=[.const (.int .i64 (0))]) dI bN J J J J J ⟨hI,aW⟩)<|bz J<|ai<|so h▸aD J J
 ·exact kp<|aB J<|M (nT (Y J) hI)<|t7 h acb (Ll _) (cA J) fun r h l c=>cy h fun y q_y h=>M (qN dI bN J (.head _) (Y J) hI q_y)<|rh (.head _) q_y fun hv=>bz J<|gQ<|J7 4 q_y J<|d6 11 J<|J7 12 q_y J<|aJ<|so h▸aD J J
def YD(p:dp)(A':Int):CD aL 126 OL (fun _=>Cp p A') [] [aY cw p,aY bY A']:=by
 refine CD.of func126 J J J fun Sg D_ s R h hx yv hy e he w0 S0 B hB=>?_
 replace h:Cp p A' D_ s=some R:=h
 refine aV<|bg jz fv qY J<|cm pH J<|M (bH hI)<|bA<|am<|aR (k:=12) J fun hN=>bE ?_;refine aE (ox (h3:=fun ls i e1 s1=>(p.J'.drop i=ls)/\hx s1 e1/\oJ p A' D_ ls i s1=some R) (Of:=fun _ i e1 s1=>[e1]) (Gf:=fun _ i e1 s1=>[(0,tV yv),(1,aY cw p),(2,aY bY A'),(12,fI (bk) p.J'),(13,jg p.J'),(14,bX (i:Int))]) (fun i e1 s1 h=>?_) (fun e2 tl ih i e1 s1 h=>?_) p.J' 0 e s ⟨J,⟨he,h⟩⟩) (aX J)
 ·obtain⟨I,h⟩:=h;obtain⟨he1,h⟩:=h;exact dH I J<|so h▸Oz J he1 hB trivial
 ·obtain⟨I,h⟩:=h;obtain⟨he1,h⟩:=h;refine dG I J<|aw ?_;refine J4 (h3:=fun e3 s2=>hx s2 e3/\xI (oJ p A' D_ tl) i s2=some R) (Of:=fun e3 s2=>[e3]) (Gf:=fun e3 s2=>[(0,tV yv),(1,aY cw p),(2,aY bY A'),(12,fI (bk) p.J'),(13,jg p.J'),(14,bX (i:Int))]) (fun e3 s2 h=>?_) (fun hb=>?_)
  ·obtain⟨he2,h⟩:=h;refine ax<|au<|M (zin (JR I hN) J)<|aQ J<|bm ?_;exact aT (aE (ih (i+1) e3 s2 ⟨cV I,⟨he2,h⟩⟩) (aX J))
  ·skip;refine aB J<|dN pH nP J (dE I)<|aO nP td J fun b=>fX J<|bv nP ae J<|aH 5 J<|bA<|aV<|cx qG J<|aQ J<|eG h aei (YC _ _) (cA J) fun r h=>aU J<|bc<|aQ J ?_;refine M (gA (Y J) hI)<|cD h J (fun h=>?_) (fun h=>?_)
   ·refine iN<|aN<|dY ?_;exact bQ (hb e1 s1 ⟨he1,h⟩) (aX J)
   ·refine kp<|aV<|cx nP J<|cx bN J<|eG h ZH (RU _ _) (cA J) fun r1 h=>cm dI J<|M (bH hI)<|bA<|am<|aR (k:=26) J fun hN1=>bE ?_;refine aE (ox (h3:=fun ls1 i1 e4 s3=>(r1.drop i1=ls1)/\hx s3 e4/\uN p A' D_ (oJ p A' D_ tl) i r ls1 s3=some R) (Of:=fun _ i1 e4 s3=>[e4]) (Gf:=fun _ i1 e4 s3=>[(0,tV yv),(1,aY cw p),(2,aY bY A'),(4,bX (i:Int)),(6,bX r),(12,fI (bk) p.J'),(13,jg p.J'),(14,bX (i:Int)),(26,gM r1),(27,jg r1),(28,bX (i1:Int))]) (fun i1 e4 s3 h=>?_) (fun e5 tl1 ih1 i1 e4 s3 h=>?_) r1 0 e1 s1 ⟨J,⟨he1,h⟩⟩) (aX J)
    ·obtain⟨m_,h⟩:=h;obtain⟨he3,h⟩:=h;refine dH m_ J<|bf ?_;exact bQ (hb e4 s3 ⟨he3,h⟩) (aX J)
    ·obtain⟨m_,h⟩:=h;obtain⟨he3,h⟩:=h;refine dG m_ J<|aw<|am<|aV<|dN dI bN J (dE m_)<|aU J<|aw<|cy h fun e6 q_e6 h=>cy h fun r2 q_r2 h=>?_;refine eE (ts:=[_,_,_,_,_,_,_,_,_]) mixed J J
      ⟨oU 1 J J (mj jz fv J J),
      ⟨gH 0 qY J J,
      ⟨fg J J,
      ⟨eQ 33 1 34 2 J J J (GN pH nP J J J q_e6),
      ⟨gH 3 nP J J,
      ⟨oU 2 J J (m9 bN J J),
      ⟨eQ 36 4 37 5 J J J (cq ZH (RU _ _ q_r2) ⟨(Y J),(Y J),aW⟩),
      ⟨dy 38 6 J J (WP dI J),
      ⟨zd0 J (bH hI),
      aW⟩⟩⟩⟩⟩⟩⟩⟩⟩ ?_
     refine ax<|am<|aR (k:=38) J fun hN2=>bE ?_;refine aE (ox (h3:=fun ls2 i2 e7 s4=>(r2.drop i2=ls2)/\hx s4 e7/\xH D_ i r (uN p A' D_ (oJ p A' D_ tl) i r tl1) e5 ls2 s4=some R) (Of:=fun _ i2 e7 s4=>[e7]) (Gf:=fun _ i2 e7 s4=>[(0,tV yv),(1,aY cw p),(2,aY bY A'),(4,bX (i:Int)),(6,bX r),(8,bX e5),(12,fI (bk) p.J'),(13,jg p.J'),(14,bX (i:Int)),(26,gM r1),(27,jg r1),(28,bX (i1:Int)),(38,gM r2),(39,jg r2),(40,bX (i2:Int))]) (fun i2 e7 s4 h=>?_) (fun e8 tl2 ih2 i2 e7 s4 h=>?_) r2 0 e4 s3 ⟨J,⟨he3,h⟩⟩) (aX J)
     ·obtain⟨hx2,h⟩:=h;obtain⟨he4,h⟩:=h;refine dH hx2 J<|dg m_ hN1 J ?_;exact aT (aE (ih1 (i1+1) e7 s4 ⟨cV m_,⟨he4,h⟩⟩) (aX J))
     ·obtain⟨hx2,h⟩:=h;obtain⟨he4,h⟩:=h;refine dG hx2 J<|aw<|am<|aV<|dN dI bN J (dE hx2)<|aU J<|aB J<|aQ J<|aQ J ?_;refine aQ J<|M (dl (y:=(⟨(i:Int),e5,e8⟩:hJ)) GZ ac2 IX (⟨_,_,_,_,_,J,Mp,J,(Y J),⟨_,_,_,_,_,J,Mo,J,(Y J),⟨_,_,_,_,_,J,Mn,J,(Y J),J⟩⟩⟩))<|aQ J<|cy h fun r3 q_r3 h=>H4 hy he4 q_r3 (Y J) ⟨(Y J),(Y J),aW⟩ J fun e9 he5=>M (gz (Y J))<|cD h J (fun h=>?_) (fun h=>?_)
      ·exact kM<|dB<|ai<|py<|dB<|ai<|py<|dB<|ai<|py<|so h▸LJ J he5 hB trivial
      ·refine bl<|dg hx2 hN2 J ?_;exact aT (aE (ih2 (i2+1) e9 r3.2 ⟨cV hx2,⟨he5,h⟩⟩) (aX J))
def XZ p A'{R}(h:ME p A'=some R):CA aL 61 [tD cw p,bX A'] OL R:=by
 exact CA.of func61 J J J fun w0 S0=>aV<|cR J<|cR J<|M (bL hV)<|bA<|aV<|FM (O1:=[]) (cts:=[aY cw p,aY bY A']) (L_:=[.tmp 2,.tmp 3]) J aej (YD p A') ⟨(Y J),(Y J),aW⟩ J fun v fp=>bz J<|so h▸Ox J J
def abw p A' holds{R}(h:Jk p A' holds=some R):cN aL 30 [tD cw p,bX A',(iM aL OL qw (fun(x:hJ×Int)=>holds x.1 x.2))] (fI (iL) R):=by
 refine DU func30 J J J fun w0 S0=>aV<|cR J<|M (KP (Y J))<|lU (iL)<|bA<|aV<|cr false iL 101<|aO (x:=ak none 0 0) Xd (fun _=>U3) J fun b=>bA<|bc<|cx qG J<|aQ J<|cy h fun it q_it h=>EQ aft (XZ _ _ q_it) ⟨(Y J),(Y J),aW⟩ J fun v fp=>bA<|am ?_;refine cy h fun s q_s h=>?_;refine J3 (fun(i:Option Nat×Nat×List hJ)=>[bx rV 58 b (ak i.1 i.2.1 i.2.2.length),fa iL 101 i.1 i.2.1 i.2.2]) (fun(i:Option Nat×Nat×List hJ)=>(i.2.2)) J (Y J) (none,0,([]:List hJ)) J q_s (fun _=>J) J (fun i x s2 h lp rec1 _ _ _=>?_) (fun i hi bd=>?_)
 ·obtain⟨l,c,xs⟩:=i
  replace h:Db holds x xs=some s2:=h
  refine(show CG _ _ _ [yd lp rec1 .ready,bx rV 58 b (ak l c xs.length),fa iL 101 l c xs] _ from ?_);refine ET (G' :=[(0,tD cw p),(1,bX A'),(2,(iM aL OL qw (fun(x:hJ×Int)=>holds x.1 x.2))),(3,aY cw p),(5,aY (rT ((iM aL OL qw (fun(x:hJ×Int)=>holds x.1 x.2)))) ()),(6,fI (iL) ([])),(7,tV (an b 0)),(10,tD cw p),(11,bX A'),(13,tD iL x.1),(14,bX x.2)]) ?_ ⟨J,J,J,J,J,J,J,J,J,J,J,aW⟩;refine aV<|aO GZ IX J fun b1=>bv GZ ae J<|aH 8 J<|bA<|au<|fX J<|bm<|OA<|am<|aV<|M (Dj acM (Y J))<|cx GZ J<|aQ J<|cy h fun r F_ h=>M (kE (args:=(fun(x:hJ×Int)=>[tD iL x.1,tD bY x.2])) (res:=FY) (f:=(fun(x:hJ×Int)=>holds x.1 x.2)) (x:=((x.1,x.2):hJ×Int)) (Y J) F_ ⟨(Y J),(Y J),aW⟩)<|cD h J (fun h=>?_) (fun h=>?_)
  ·refine au<|M (u9 Xd (.tail _ (.head _)) (Y J))<|cx GZ J<|M (aI (r:=iL) (ys:=[x.1]) (xs:=[.tmp 20]) underlying58 GZ J J J J J ⟨(Y J),aW⟩)<|gi<|cy h fun l1 q_l1 h=>ea GZ J J J J underlying58 J J (Y J) (Y J) q_l1 fun l2 c1=>gi<|dZ Xd J ae J (Y J) (Ih (Y J))<|bm<|bf<|bj<|bj<|ah ?_;exact AV (l2,c1,l1) (so h) J
  ·refine bl<|bf ?_;exact AV (l,c,xs) (so h) J
 ·skip;obtain⟨l3,c2,xs1⟩:=i;have hi:xs1=s:=hi;subst hi;refine(show AT _ _ _ [Gb bd,bx rV 58 b (ak l3 c2 xs1.length),fa iL 101 l3 c2 xs1] _ from ?_);refine bQ (G' :=[(0,tD cw p),(1,bX A'),(2,(iM aL OL qw (fun(x:hJ×Int)=>holds x.1 x.2))),(3,aY cw p),(5,aY (rT ((iM aL OL qw (fun(x:hJ×Int)=>holds x.1 x.2)))) ()),(6,fI (iL) ([])),(7,tV (an b 0)),(10,tD cw p),(11,bX A')]) ?_ ⟨J,J,J,J,J,J,J,J,J,aW⟩;exact bf<|ax<|aV<|M (u9 Xd (.tail _ (.head _)) (Y J))<|bz J<|ah<|gQ<|d6 6 J<|d6 23 J<|n6 6 J<|aJ<|bj<|aJ<|zB<|tX<|so h▸aD J J
def abv p p1{R}(h:Ao p p1=some R):cN aL 31 [tD iL p,bX p1] (gp R):=by
 exact dL func31 J<|aV<|cR J<|bn<|bA<|aV<|bn<|bO<|so h▸aD J J
def abG p A'{R}(h:Dc p A'=some R):cN aL 13 [tD cw p,bX A'] (tT [fI (iL) R.1,bX R.2]):=by
 refine dL func13 J<|aV<|cR J<|lU (iL)<|cM<|bA<|bc<|cx qG J<|aQ J<|eG h afW (abx _ _ _) (cA J) fun r h=>aU J<|aB J<|mn J<|bA ?_;refine oS h J (fun h=>?_) (fun h=>?_)
 ·exact aB J<|lU (iL)<|bz J<|ai<|so h▸ff J J J
 ·exact kp<|aV<|cx qG J<|aQ J<|eG h afV (abw _ _ _) ⟨(Y J),(Y J),(Ii afU fun x y h=>abv _ _ h),aW⟩ fun r1 h=>fX J<|jK<|so h▸ff J J J
def ada{R}(h:Ax=some R):cN aL 4 [] (gp R):=by
 refine dL func4 J<|aV<|bn<|bA<|aV<|M (aI (r:=bY) (ys:=[2]) (xs:=[.const (.int .i64 (2))]) dI bN J J J J J ⟨hI,aW⟩)<|M (dl (y:=Z4) dc TF fC (⟨_,_,_,_,_,J,yX,J,hI,⟨_,_,_,_,_,J,uh,J,hI,⟨_,_,_,_,_,J,se,J,hI,⟨_,_,_,_,_,J,Ci,J,hI,⟨_,_,_,_,_,J,yW,J,(Y J),J⟩⟩⟩⟩⟩))<|M (dl (y:=ZZ) oT acX vo (⟨_,_,_,_,_,J,Mr,J,hI,J⟩))<|M (aI (r:=eg) (ys:=[ZZ]) (xs:=[.tmp 8]) oP oT J J J J J ⟨(Y J),aW⟩)<|M (dl (y:=aae) dc TF fC (⟨_,_,_,_,_,J,yX,J,hI,⟨_,_,_,_,_,J,se,J,hI,⟨_,_,_,_,_,J,G6,J,(Y J),J⟩⟩⟩))<|M (aI (r:=al) (ys:=[Z4,aae]) (xs:=[.tmp 7,.tmp 10]) kw dc J J J J J ⟨(Y J),(Y J),aW⟩)<|M (dl (y:=WZ) t6 aaT uU (⟨_,_,_,_,_,J,Pe,J,(Y J),J⟩))<|aO t6 uU J fun b=>bv t6 ae J<|aH 1 J<|bA<|aw<|cy h fun r F_ h=>cy h fun r1 Y_ h=>?_;refine lw 8 [tc (tD dO WZ),tc (tD eH r),tc (tT [tD cw r1.1,bX r1.2]),tc (tT [tD cw r1.1,bX r1.2]),tc (tD cw r1.1),tc (bX r1.2),([6],fun s=>tV (an ((s.getD 0 rs).h 0).2 0)),tc (CZ)] [false,false,false,false,false,false,true,true] [fun _=>[],fun sg=>[bx cw 33 ((sg 6).h 0).2 WR],fun sg=>[bx cw 33 ((sg 6).h 0).2 r1.1]] J mixed J J J J J
  ⟨⟨[⟨1,fun _=>aY dO WZ,none⟩],_,0,1,J,⟨(fun _=>J),aW⟩,J,J,J,J,J,fun _ sg _ _=>aa J (m9 t6 J J)⟩,
  ⟨⟨[],_,0,1,J,aW,J,J,J,J,J,fun _ sg _ _=>aa J (cq af5 (abH F_) trivial)⟩,
  ⟨⟨[⟨14,fun _=>tD dO WZ,some 0⟩,⟨15,fun _=>tD eH r,some 1⟩],_,0,1,J,⟨(fun _=>J),(fun _=>J),aW⟩,J,J,J,J,J,fun _ sg _ _=>aa J (cq cb7 (Zv _ _ Y_) ⟨(Y J),(Y J),aW⟩)⟩,
  ⟨⟨[⟨16,fun _=>tT [tD cw r1.1,tD bY r1.2],some 2⟩],_,0,1,J,⟨(fun _=>J),aW⟩,J,J,J,J,J,fun _ sg _ _=>aa J (kR J)⟩,
  ⟨⟨[⟨13,fun _=>tT [tD cw r1.1,tD bY r1.2],some 3⟩],_,0,1,J,⟨(fun _=>J),aW⟩,J,J,J,J,J,fun _ sg _ _=>aa J (Sw J J)⟩,
  ⟨⟨[⟨13,fun _=>tT [tD cw r1.1,tD bY r1.2],some 3⟩],_,0,2,J,⟨(fun _=>J),aW⟩,J,J,J,J,J,fun _ sg _ _=>aa J (Sw J J)⟩,
  ⟨⟨[],_,J,aW,J,J,J,fun sg=>cL J (km qG vF)⟩,
  ⟨⟨[⟨2,fun sg=>tV (an ((sg 6).h 0).2 0),some 6⟩,⟨17,fun _=>tD cw r1.1,some 4⟩],_,J,⟨(fun _=>J),(fun _=>J),aW⟩,J,J,J,fun sg=>cL J (gD qG J (yV ae) J (Y J) (Y J))⟩,
  aW⟩⟩⟩⟩⟩⟩⟩⟩ (fun sg=>?_)
 refine(show RG _ _ _ _ [_] _ from ?_);refine aH 2 J<|aU J<|aV<|cx qG J<|eG h af4 (abG _ _) (cA J) fun r2 h=>aQ J<|dq J J<|dq J J<|fX J<|aU J<|aB J<|cz J<|aQ J<|aj J (cY J)<|aj J (iu J)<|dx J ?_;refine aQ J<|aj J (cZ jz fv J J)<|aj J (cG qY J J)<|aj J (fM pH J)<|aj J (iu J)<|dx J<|aQ J<|cy h fun t Z_ h=>aj J (cZ jz fv J J)<|aj J (cG qY J J) ?_;obtain⟨e,B_,h0t⟩:=og Z_;have q_eg:=fun K=>(B_ K).1;refine aj J (fun H=>aS pH nP J (br J H) hI (q_eg H))<|aj J (fun H=>dP tJ J mz J (br J H))<|aj J (cG o5 J J)<|aj J (fM kw J)<|aj J (iu J)<|M (dW (Y J) (fun K=>(br J K)) (fun K=>(B_ K).2) h0t)<|aQ J<|cy h fun t1 q_t1 h=>aj J (cZ jz fv J J)<|aj J (cG qY J J) ?_;obtain⟨e1,O_,h0t1⟩:=og q_t1;have q_e1g:=fun K=>(O_ K).1;refine aj J (fun H=>aS pH nP J (br J H) hI (q_e1g H))<|aj J (fun H=>dP tJ J mz J (br J H))<|aj J (cG o5 J J) ?_;obtain⟨e2,O_⟩:=WL (fun K=>(O_ K).2);have q_e2g:=fun K=>(O_ K).1;exact aj J (fun H=>aS kw dc J (br J H) hI (q_e2g H))<|aj J (fun H=>dP jy J dA J (br J H))<|aj J (cG bN J J)<|aj J (iu J)<|M (dW (Y J) (fun K=>(br J K)) (fun K=>(O_ K).2) h0t1)<|aQ J<|aj J (cY J)<|aj J (fM underlying58 J)<|aj J (iu J)<|dx J<|bz J<|so h▸aD J J
def Ql e{R}(h:pm e=some R):cN aL 14 [tD cg e] (gp R):=by
 refine dL func14 J<|aV<|cR J<|bn<|bA<|bc<|bg gI dF pC J<|cm oD J<|M (fR (Y J) hI)<|cD h J (fun h=>?_) (fun h=>?_)
 ·exact aV<|bn<|bO<|ai<|so h▸aD J J
 ·refine kp<|bc<|bg gI dF pC J<|cm oD J<|M (bH hI)<|bA<|am<|aR (k:=10) J fun hN=>bE ?_;refine aE (fj (h3:=fun ls i=>(e.u'.drop i=ls)/\ot ls=some R) (Of:=fun _ i=>[]) (Gf:=fun _ i=>[(10,fI (bJ) e.u'),(11,jg e.u'),(12,bX (i:Int))]) (fun i h=>?_) (fun e1 tl ih i h=>?_) e.u' 0 ⟨J,h⟩) (aX J)
  ·obtain⟨I,h⟩:=h;exact dH I J<|ax<|aV<|bn<|bO<|so h▸aD J J
  ·obtain⟨I,h⟩:=h;refine dG I J<|aw<|am<|aV<|dN oD hM J (dE I)<|aO hM tf J fun b=>bv hM ae J<|aH 4 J<|bA<|aV<|qx Dy wJ J ?_;refine bg Lj Cw OV J<|M (Dk pB (Y J))<|M (fR (Y J) hI)<|cD h J (fun h=>?_) (fun h=>?_)
   ·exact aV<|bn<|bO<|dB<|ai<|dB<|so h▸aD J J
   ·refine bl<|dg I hN J ?_;exact aT (aE (ih (i+1) ⟨cV I,h⟩) (aX J))
