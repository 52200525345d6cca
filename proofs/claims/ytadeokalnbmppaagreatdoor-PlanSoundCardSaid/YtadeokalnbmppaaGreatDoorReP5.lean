import Derived.Test.YtadeokalnbmppaaGreatDoorReT
import Derived.Test.YtadeokalnbmppaaGreatDoorReP4
set_option linter.all false
namespace Go.Proofs.YtadeokalnbmppaaGreatDoor
open Go IntKind Tryz
set_option maxRecDepth 100000
def abu t{R}(h:nY t=some R):cN aL 32 [tD fD t] (gp R):=by
 exact dL func32 J<|aV<|cR J<|bn<|bA<|aV<|cx yR J<|eG h afS (abt _) (cA J) fun r h=>mn J<|bz J<|so h▸aD J J
def VY s f{R}(h:eK s f=some R):cN aL 66 [fI (fD) s,(iM aL CV qw (fun(x:de)=>f x))] (bX R):=by
 refine dL func66 J<|aV<|cM<|bA<|bc<|aQ J<|cm Bs J<|M (bH hI)<|bA<|am<|aR (k:=6) J fun hN=>bE ?_;refine aE (fj (h3:=fun ls i=>(s.drop i=ls)/\cB f ls i=some R) (Of:=fun _ i=>[]) (Gf:=fun _ i=>[(0,fI (fD) s),(1,(iM aL CV qw (fun(x:de)=>f x))),(7,jg s),(8,bX (i:Int))]) (fun i h=>?_) (fun e tl ih i h=>?_) s 0 ⟨J,h⟩) (aX J)
 ·obtain⟨I,h⟩:=h;exact dH I J<|ax<|aV<|jK<|so h▸aD J J
 ·obtain⟨I,h⟩:=h;refine dG I J<|aw<|am<|aB J<|aU J<|aB J<|aQ J<|aQ J<|vA Bs yR J (dE I) ?_;refine cx yR J<|cy h fun r F_ h=>M (kE (args:=CV) (res:=FY) (f:=(fun(x:de)=>f x)) (x:=((e):de)) (Y J) F_ ⟨(Y J),aW⟩)<|cD h J (fun h=>?_) (fun h=>?_)
  ·exact aB J<|bz J<|dB<|ai<|dB<|so h▸aD J J
  ·refine bl<|dg I hN J ?_;exact aT (aE (ih (i+1) ⟨cV I,h⟩) (aX J))
def abs s f{R}(h:iJ s f=some R):cN aL 34 [fI (fD) s,(iM aL CV qw (fun(x:de)=>f x))] (gp R):=by
 exact dL func34 J<|aV<|bn<|bA<|aB J<|aQ J<|eG h adx (VY _ _) (cA J) fun r h=>M (eT (Y J) hI)<|bz J<|so h▸aD J J
def Yx of name p{R}(h:iq of name p=some R):cN aL 134 [tD fD p,aY (rT ((iM aL CV Bw (fun(x:de)=>of x)))) (),aY rS name] (gp R):=by
 refine dL func134 J<|aV<|cR J<|bn<|bA<|aw<|cy h fun r F_ h=>?_;refine eE (ts:=[_,_,_,_,_,_]) mixed J J
  ⟨oU 1 J J (Dj acL (Y J)),
  ⟨oU 3 J J (m9 yR J J),
  ⟨eQ 5 0 6 1 J J J (kE (args:=CV) (res:=Bw) (f:=(fun(x:de)=>of x)) (x:=((p):de)) (Y J) F_ ⟨(Y J),aW⟩),
  ⟨oU 2 J J (m9 OV J J),
  ⟨eQ 7 2 8 3 J J J (Gs (Y J) (Y J)),
  ⟨dy 9 4 J J (yO J),
  aW⟩⟩⟩⟩⟩⟩ ?_
 exact ax<|kM<|so h▸aD J J
def abb l of name{R}(h:mY l of name=some R):cN aL 67 [fI (fD) l,(iM aL CV Bw (fun(x:de)=>of x)),tD rS name] (tT [bX R.1,gp R.2]):=by
 refine dL func67 J<|aV<|M (KP (Y J))<|cR J<|cM<|bn<|bA<|aB J<|M ((show ck _ _ _ _ ((iM aL CV qw (fun(x:de)=>(iq of name) x)))from kW (cts:=[aY (rT ((iM aL CV Bw (fun(x:de)=>of x)))) (),aY rS name]) (L_:=[.tmp 4,.tmp 5]) aed ⟨(Y J),(Y J),aW⟩ (fun x y h=>Yx _ _ _ h)))<|eG h adx (VY _ _) (cA J) fun r h=>aU J<|aB J<|M (KM (Y J) hI)<|aQ J<|M (eT (Y J) hI) ?_;exact fX J<|bz J<|so h▸ff J J J
def abr l of{R}(h:pV l of=some R):cN aL 35 [fI (fD) l,(iM aL CV Bw (fun(x:de)=>of x))] (gp R):=by
 refine dL func35 J<|aV<|bn<|bA<|bc<|aQ J<|cm Bs J<|M (bH hI)<|bA<|am<|aR (k:=9) J fun hN=>bE ?_;refine aE (fj (h3:=fun ls i=>(l.drop i=ls)/\jp l of ls i=some R) (Of:=fun _ i=>[]) (Gf:=fun _ i=>[(0,fI (fD) l),(1,(iM aL CV Bw (fun(x:de)=>of x))),(9,fI (fD) l),(10,jg l),(11,bX (i:Int))]) (fun i h=>?_) (fun e tl ih i h=>?_) l 0 ⟨J,h⟩) (aX J)
 ·obtain⟨I,h⟩:=h;exact dH I J<|ax<|aV<|bn<|bO<|so h▸aD J J
 ·obtain⟨I,h⟩:=h;refine dG I J<|aw<|am<|aB J<|dN Bs yR J (dE I)<|aO yR CS J fun b=>fX J<|bv yR ae J<|aH 6 J<|bA<|aw ?_;refine au<|aQ J<|aQ J<|aQ J<|cx yR J<|cy h fun r F_ h=>M (kE (args:=CV) (res:=Bw) (f:=(fun(x:de)=>of x)) (x:=((e):de)) (Y J) F_ ⟨(Y J),aW⟩)<|eG h afp (abb _ _ _) (cA J) fun r1 h=>aQ J<|dq J J<|dq J J<|fX J<|aU J<|aB J<|aQ J<|M (jV (Y J) (Y J))<|aQ J<|cy h fun t Z_ h=>aC J (cY J) ?_;refine aC J (fun H=>m9 yR J J) ?_;obtain⟨r2,B_,h0t⟩:=og Z_;have q_r2g:=fun K=>(B_ K).1;refine aC J (fun H=>kE (args:=CV) (res:=Bw) (f:=(fun(x:de)=>of x)) (x:=((e):de)) (br J H) (q_r2g H) ⟨(br J H),aW⟩) ?_;obtain⟨r3,B_⟩:=WL (fun K=>(B_ K).2);have q_r3g:=fun K=>(B_ K).1;refine aC J (fun H=>cq acd (Qj _ (q_r3g H)) ⟨(br J H),aW⟩)<|aC J (wj J)<|M (iz (Y J) (fun K=>(br J (sn K))) (fun K=>(B_ K).2) h0t)<|cD h J (fun h=>?_) (fun h=>?_)
  ·exact aV<|bn<|bO<|dB<|ai<|dB<|so h▸aD J J
  ·refine bl<|dg I hN J ?_;exact aT (aE (ih (i+1) ⟨cV I,h⟩) (aX J))
def abq t{R}(h:iH t=some R):cN aL 36 [tD fD t] (tD rS R):=by
 exact dL func36 J<|aV<|cR J<|M (bL hS)<|bA<|aV<|bg Qd Cy OV J<|bz J<|so h▸aD J J
def V4 c{R}(h:rN c=some R):cN aL 16 [tD eH c] (bX R):=by
 refine dL func16 J<|aV<|cR J<|cM<|bA<|aV<|M (bL (show aG _ _ _ ((iM aL CV qw (fun(x:de)=>nY x)))from(Ii afT fun x y h=>abu _ h)))<|bA<|bc<|bg wL kH GX J<|cm Bs J<|M (fR (Y J) hI)<|aQ J<|cy h fun t Z_ h=>aC J (cZ wL kH J J)<|aC J (cG GX J J)<|aC J (cY J) ?_;obtain⟨r,B_,h0t⟩:=og Z_;have q_rg:=fun K=>(B_ K).1;refine aC J (fun H=>cq afR (abs _ _ (q_rg H)) ⟨(br J H),(br J H),aW⟩)<|M (iz (Y J) (fun K=>(br J (sn K))) (fun K=>(B_ K).2) h0t)<|aQ J<|cy h fun t1 q_t1 h=>aC J (cZ wL kH J J)<|aC J (cG GX J J) ?_;obtain⟨r1,O_,h0t1⟩:=og q_t1;have q_r1g:=fun K=>(O_ K).1;refine aC J (fun H=>cq afQ (abr _ _ (q_r1g H)) ⟨(br J H),(Ii afP fun x y h=>abq _ h),aW⟩)<|aC J (wj J)<|M (iz (Y J) (fun K=>(br J (sn K))) (fun K=>(O_ K).2) h0t1)<|cD h J (fun h=>?_) (fun h=>?_)
 ·exact aV<|jK<|ai<|so h▸aD J J
 ·exact kp<|aV<|jK<|so h▸aD J J
def HR s1 s2{R}(h:fO s1 s2=some R):cN aL 37 [gM s1,gM s2] (gp R):=by
 refine dL func37 J<|aV<|bn<|bA<|bc<|aQ J<|cm dI J<|aQ J<|cm dI J<|M (jV (Y J) (Y J))<|cD h J (fun h=>?_) (fun h=>?_)
 ·exact aV<|bn<|bO<|ai<|so h▸aD J J
 ·refine kp<|bc<|aQ J<|cm dI J<|M (bH hI)<|bA<|am<|aR (k:=11) J fun hN=>bE ?_;refine aE (fj (h3:=fun ls i=>(s1.drop i=ls)/\iK s2 ls i=some R) (Of:=fun _ i=>[]) (Gf:=fun _ i=>[(0,gM s1),(1,gM s2),(12,jg s1),(13,bX (i:Int))]) (fun i h=>?_) (fun e tl ih i h=>?_) s1 0 ⟨J,h⟩) (aX J)
  ·obtain⟨I,h⟩:=h;exact dH I J<|ax<|aV<|bn<|bO<|so h▸aD J J
  ·obtain⟨I,h⟩:=h;refine dG I J<|aw<|am<|aB J<|aU J<|aw<|cy h fun e1 s_ h=>?_;refine eE (ts:=[_,_,_,_,_,_,_,_,_]) mixed J J
    ⟨fg J J,
    ⟨fg J J,
    ⟨eQ 16 0 17 1 J J J (GN dI bN J J J (dE I)),
    ⟨gH 2 bN J J,
    ⟨fg J J,
    ⟨fg J J,
    ⟨eQ 20 4 21 5 J J J (GN dI bN J J J s_),
    ⟨gH 6 bN J J,
    ⟨eQ 19 3 23 7 J J J (jV (Y J) (Y J)),
    aW⟩⟩⟩⟩⟩⟩⟩⟩⟩ ?_
   refine ax<|oS h J (fun h=>?_) (fun h=>?_)
   ·exact aV<|bn<|bO<|dB<|ai<|dB<|so h▸aD J J
   ·refine bl<|dg I hN J ?_;exact aT (aE (ih (i+1) ⟨cV I,h⟩) (aX J))
def abE l c{R}(h:Co l c=some R):cN aL 17 [tD dO l,tD eH c] (gp R):=by
 refine dL func17 J<|aV<|cR J<|cR J<|bn<|bA<|bc<|bg tL mJ o5 J<|cm kw J<|M (bH hI)<|bA<|am<|aR (k:=11) J fun hN=>bE ?_;refine aE (fj (h3:=fun ls i=>(l.u'.drop i=ls)/\m4 c ls=some R) (Of:=fun _ i=>[]) (Gf:=fun _ i=>[(3,aY eH c),(11,fI (al) l.u'),(12,jg l.u'),(13,bX (i:Int))]) (fun i h=>?_) (fun e tl ih i h=>?_) l.u' 0 ⟨J,h⟩) (aX J)
 ·obtain⟨I,h⟩:=h;exact dH I J<|ax<|aV<|bn<|bO<|so h▸aD J J
 ·obtain⟨I,h⟩:=h;refine dG I J<|aw ?_;refine J6 (h3:=uL (m4 c tl)=some R) (Of:=[]) (Gf:=[(3,aY eH c),(11,fI (al) l.u'),(12,jg l.u'),(13,bX (i:Int))]) (fun h=>?_) (fun hb=>?_)
  ·skip;refine ax<|au<|M (zin (JR I hN) J)<|aQ J<|bm ?_;exact aT (aE (ih (i+1) ⟨cV I,h⟩) (aX J))
  ·skip;refine aV<|dN kw dc J (dE I)<|aO dc fC J fun b=>bv dc ae J<|aH 6 J<|bA<|bc<|bg jy dA bN J<|mn J<|cD h J (fun h=>?_) (fun h=>?_)
   ·refine iN<|aN<|dY ?_;exact bQ (hb h) (aX J)
   ·refine kp<|bc<|bg oM gC bN J<|bg wL kH GX J<|cm Bs J<|M (eT (Y J) (Y J))<|cD h J (fun h=>?_) (fun h=>?_)
    ·exact aV<|bn<|bO<|ai<|dB<|ai<|dB<|so h▸aD J J
    ·refine kp<|aV<|cr false bY 3<|M (bL xq)<|bA<|bc<|bg wL kH GX J<|bg oM gC bN J<|cy h fun e1 s_ h=>vA Bs yR J s_<|bg zn pS Kl J<|cm yI J<|M (bH hI)<|bA<|am ?_;refine aR (k:=32) J fun hN1=>bE ?_;refine aE (qb (h3:=fun ls1 i1 j' l1 c1=>(e1.b_.drop i1=ls1)/\qj (m4 c tl) e ls1 j'=some R) (Of:=fun _ i1 j' l1 c1=>[fa bY 3 l1 c1 j']) (Gf:=fun _ i1 j' l1 c1=>[(3,aY eH c),(6,aY al e),(7,s5 l1 c1 j'),(11,fI (al) l.u'),(12,jg l.u'),(13,bX (i:Int)),(32,fI (ev) e1.b_),(33,jg e1.b_),(34,bX (i1:Int))]) (fun i1 j' l1 c1 h=>?_) (fun e2 tl1 ih1 i1 j' l1 c1 h=>?_) e1.b_ 0 vH none 0 ⟨J,h⟩) (aX J)
     ·obtain⟨m_,h⟩:=h;refine dH m_ J<|ax<|aB J<|bg oL gY bK J<|qo<|rQ 7 J<|rQ 44 J<|eG h Wp (HR _ _) ⟨(nt (Y J)),(Y J),aW⟩ fun r h=>M (gz (Y J)) ?_;refine cD h J (fun h=>?_) (fun h=>?_)
      ·exact aV<|bn<|bO<|dB<|ai<|dB<|aJ<|so h▸aD J J
      ·refine bl<|bf<|aJ ?_;exact bQ (hb h) (aX J)
     ·obtain⟨m_,h⟩:=h;refine dG m_ J<|aw<|am<|aV<|dN yI uX J (dE m_)<|aO uX sF J fun b1=>bv uX ae J<|aH 9 J<|bA<|au<|aQ J<|qx Qc AC J ?_;refine cx bN J<|M (aI (r:=bY) (ys:=[e2.Kind]) (xs:=[.tmp 40]) dI bN J J J J J ⟨(Y J),aW⟩)<|cy h fun kinds1 q_kinds1 h=>ea bN J J J J dI J J (Y J) (Y J) q_kinds1 fun l2 c2=>fX J<|bm<|dg m_ hN1 J ?_;exact aT (aE (ih1 (i1+1) kinds1 l2 c2 ⟨cV m_,h⟩) (aX J))
def XY s{R}(h:fJ s=some R):mi aL 68 [fI (kz) s] false kz 139 R:=by
 refine mi.of func68 J J J fun w0 S0=>aV<|cr false kz 139<|M (bL xq)<|bA<|bc<|aQ J<|yy Bt (Y J) J fun isnil hisnil=>bA<|qC (Y J) (fun hc=>?_) (fun hc=>?_)
 ·have I:=hisnil hc;have h:some ([]:List px)=some R:=by simpa [fJ,nH,I] using h
  exact aV<|cr false kz 139<|M (bL xq)<|bO<|ai<|so h▸lR J J
 ·exact kp<|aV<|pF (r:=kz) (ys:=([]:List px)) (xs:=[]) Bt Fc J J J J J trivial J fun l c=>aQ J<|cy h fun x q_x h=>ea Fc J J J J Bt J J (Y J) (Y J) q_x fun l1 c1=>bz J<|so h▸lR J J
def aba s{R}(h:fJ s=some R):cN aL 68 [fI (kz) s] (fI (kz) R):=(XY _ h).spec
def Lm s{R}(h:co s=some R):mi aL 69 [fI (bJ) s] false bJ 107 R:=by
 refine mi.of func69 J J J fun w0 S0=>aV<|cr false bJ 107<|M (bL xq)<|bA<|bc<|aQ J<|yy oD (Y J) J fun isnil hisnil=>bA<|qC (Y J) (fun hc=>?_) (fun hc=>?_)
 ·have I:=hisnil hc;have h:some ([]:List bw)=some R:=by simpa [co,nH,I] using h
  exact aV<|cr false bJ 107<|M (bL xq)<|bO<|ai<|so h▸lR J J
 ·exact kp<|aV<|pF (r:=bJ) (ys:=([]:List bw)) (xs:=[]) oD hM J J J J J trivial J fun l c=>aQ J<|cy h fun x q_x h=>ea hM J J J J oD J J (Y J) (Y J) q_x fun l1 c1=>bz J<|so h▸lR J J
def VX s{R}(h:co s=some R):cN aL 69 [fI (bJ) s] (fI (bJ) R):=(Lm _ h).spec
def XX s{R}(h:ic s=some R):mi aL 70 [fI (eg) s] false eg 56 R:=by
 refine mi.of func70 J J J fun w0 S0=>aV<|cr false eg 56<|M (bL xq)<|bA<|bc<|aQ J<|yy oP (Y J) J fun isnil hisnil=>bA<|qC (Y J) (fun hc=>?_) (fun hc=>?_)
 ·have I:=hisnil hc;have h:some Uz=some R:=by simpa [ic,nH,I] using h
  exact aV<|cr false eg 56<|M (bL xq)<|bO<|ai<|so h▸lR J J
 ·exact kp<|aV<|pF (r:=eg) (ys:=Uz) (xs:=[]) oP oT J J J J J trivial J fun l c=>aQ J<|cy h fun x q_x h=>ea oT J J J J oP J J (Y J) (Y J) q_x fun l1 c1=>bz J<|so h▸lR J J
def XW s{R}(h:gx s=some R):mi aL 71 [fI (cg) s] false cg 43 R:=by
 refine mi.of func71 J J J fun w0 S0=>aV<|cr false cg 43<|M (bL xq)<|bA<|bc<|aQ J<|yy s7 (Y J) J fun isnil hisnil=>bA<|qC (Y J) (fun hc=>?_) (fun hc=>?_)
 ·have I:=hisnil hc;have h:some ([]:List bD)=some R:=by simpa [gx,nH,I] using h
  exact aV<|cr false cg 43<|M (bL xq)<|bO<|ai<|so h▸lR J J
 ·exact kp<|aV<|pF (r:=cg) (ys:=([]:List bD)) (xs:=[]) s7 jM J J J J J trivial J fun l c=>aQ J<|cy h fun x q_x h=>ea jM J J J J s7 J J (Y J) (Y J) q_x fun l1 c1=>bz J<|so h▸lR J J
def abp n by1{R}(h:vR n by1=some R):cN aL 38 [tD al n,bX by1] (tD al R):=by
 refine dL func38 J<|aV<|tU (Y J) J fun b=>aO dc fC J fun b1=>bA ?_;refine fL (h3:=fun n1=>rW by1 n1=some R) (Of:=fun n1=>[bx al 48 b n1,bx al 48 b1 WQ]) (Gf:=fun n1=>[(1,bX by1),(2,tV (an b 0)),(4,tV (an b1 0))]) (fun n1 h=>?_) (fun hb=>?_)
 ·skip;refine fL (h3:=fun n2=>p9 n2=some R) (Of:=fun n2=>[bx al 48 b n2,bx al 48 b1 WQ]) (Gf:=fun n2=>[(2,tV (an b 0)),(4,tV (an b1 0))]) (fun n2 h=>?_) (fun K1=>?_)
  ·skip;refine aw<|cy h fun r F_ h=>cy h fun r1 Y_ h=>cy h fun r2 q_r2 h=>?_;refine mS 10 (ts:=[tV (an b 4),gM n2.U',gM r,tV (an b 7),gM n2.I',gM r1,tV (an b 10),fI (kz) n2.Y',fI (kz) r2,tV (an b 4)]) mixed J J J
    ⟨oU 2 J J (qd 4 oL J J J),
    ⟨dy 23 0 J J (ay bK J J gY (.head _) (Y J)),
    ⟨dy 24 1 J J (cq Ge (Ln _ F_) ⟨(Y J),aW⟩),
    ⟨oU 2 J J (qd 7 mf J J J),
    ⟨dy 26 3 J J (ay bK J J eV (.head _) (Y J)),
    ⟨dy 27 4 J J (cq Ge (Ln _ Y_) ⟨(Y J),aW⟩),
    ⟨oU 2 J J (qd 10 rX J J J),
    ⟨dy 29 6 J J (ay F2 J J m8 (.head _) (Y J)),
    ⟨dy 30 7 J J (cq afo (aba _ q_r2) ⟨(Y J),aW⟩),
    ⟨oU 2 J J (qd 4 oL J J J),
    aW⟩⟩⟩⟩⟩⟩⟩⟩⟩⟩ ?_
   refine bv bK yW J<|bI 7 mf J<|bv bK G7 J<|bI 10 rX J<|bv F2 Fg J<|bA<|aV<|bI 6 tK J<|bI 6 gI J<|M (ay pC J J (gj mK dF) (.head _) (Y J))<|t7 h YS (Lm _) (cA J) fun r3 h l c=>bI 6 tK J<|bI 6 gI J<|qo<|rQ 38 J<|bM<|dZ pC J (AY mK Ch Eo) J (Y J) (nt (Y J))<|bA<|aw<|cy h fun r4 q_r4 h=>?_;refine cy h fun r5 q_r5 h=>?_;refine lw 7 [tc (tV (an b 8)),tc (fI (eg) (({(ac.mk n2.Op n2.A n2.B n2.M' r n2.Left n2.f_ r1 n2.L' n2.N' r2 n2.Z')with f_:=({(ac.mk n2.Op n2.A n2.B n2.M' r n2.Left n2.f_ r1 n2.L' n2.N' r2 n2.Z').f_ with u':=r3}:bD)}:ac).L')),([2],fun s=>tV (ak ((s.getD 0 rs).h 0).1 ((s.getD 0 rs).h 0).2 r4.length)),tc (tV (an b 9)),tc (fI (cg) (({(ac.mk n2.Op n2.A n2.B n2.M' r n2.Left n2.f_ r1 n2.L' n2.N' r2 n2.Z')with f_:=({(ac.mk n2.Op n2.A n2.B n2.M' r n2.Left n2.f_ r1 n2.L' n2.N' r2 n2.Z').f_ with u':=r3}:bD)}:ac).N')),([5],fun s=>tV (ak ((s.getD 0 rs).h 0).1 ((s.getD 0 rs).h 0).2 r5.length)),tc (tV (an b 8))] [false,false,true,false,false,true,false] [fun _=>[bx al 48 b ({(ac.mk n2.Op n2.A n2.B n2.M' r n2.Left n2.f_ r1 n2.L' n2.N' r2 n2.Z')with f_:=({(ac.mk n2.Op n2.A n2.B n2.M' r n2.Left n2.f_ r1 n2.L' n2.N' r2 n2.Z').f_ with u':=r3}:bD)}:ac),dM bJ 107 l c r3,bx al 48 b1 WQ],fun sg=>[fa eg 56 ((sg 2).h 0).1 ((sg 2).h 0).2 r4,bx al 48 b ({(ac.mk n2.Op n2.A n2.B n2.M' r n2.Left n2.f_ r1 n2.L' n2.N' r2 n2.Z')with f_:=({(ac.mk n2.Op n2.A n2.B n2.M' r n2.Left n2.f_ r1 n2.L' n2.N' r2 n2.Z').f_ with u':=r3}:bD)}:ac),dM bJ 107 l c r3,bx al 48 b1 WQ],fun sg=>[fa cg 43 ((sg 5).h 0).1 ((sg 5).h 0).2 r5,fa eg 56 ((sg 2).h 0).1 ((sg 2).h 0).2 r4,bx al 48 b ({(ac.mk n2.Op n2.A n2.B n2.M' r n2.Left n2.f_ r1 n2.L' n2.N' r2 n2.Z')with f_:=({(ac.mk n2.Op n2.A n2.B n2.M' r n2.Left n2.f_ r1 n2.L' n2.N' r2 n2.Z').f_ with u':=r3}:bD)}:ac),dM bJ 107 l c r3,bx al 48 b1 WQ]] J mixed J J J J J
    ⟨⟨[⟨2,fun _=>tV (an b 0),none⟩],_,0,0,J,⟨(fun _=>J),aW⟩,J,J,J,J,J,fun _ sg _ _=>aa J (qd 8 kI J J J)⟩,
    ⟨⟨[⟨41,fun _=>tV (an b 8),some 0⟩],_,0,0,J,⟨(fun _=>J),aW⟩,J,J,J,J,J,vI (fun sg=>aa J (ay tm J J fH (.head _) (Y J)))⟩,
    ⟨⟨[⟨42,fun _=>tD (eW eg) (({(ac.mk n2.Op n2.A n2.B n2.M' r n2.Left n2.f_ r1 n2.L' n2.N' r2 n2.Z')with f_:=({(ac.mk n2.Op n2.A n2.B n2.M' r n2.Left n2.f_ r1 n2.L' n2.N' r2 n2.Z').f_ with u':=r3}:bD)}:ac).L'),some 1⟩],_,J,⟨(fun _=>J),aW⟩,J,J,J,fun sg=>cL J (JQ (xs:=[.tmp 42]) (ts:=[tD (eW eg) (({(ac.mk n2.Op n2.A n2.B n2.M' r n2.Left n2.f_ r1 n2.L' n2.N' r2 n2.Z')with f_:=({(ac.mk n2.Op n2.A n2.B n2.M' r n2.Left n2.f_ r1 n2.L' n2.N' r2 n2.Z').f_ with u':=r3}:bD)}:ac).L')]) afn (XX _ q_r4) ⟨(Y J),aW⟩)⟩,
    ⟨⟨[⟨2,fun _=>tV (an b 0),none⟩],_,0,1,J,⟨(fun _=>J),aW⟩,J,J,J,J,J,fun _ sg _ _=>aa J (qd 9 qT J J J)⟩,
    ⟨⟨[⟨44,fun _=>tV (an b 9),some 3⟩],_,0,1,J,⟨(fun _=>J),aW⟩,J,J,J,J,J,Ee (fun sg=>aa J (ay zP J J lH (.head _) (Y J))) (vI (fun sg=>aa J (ay zP J J lH (.tail _ (.head _)) (Y J))))⟩,
    ⟨⟨[⟨45,fun _=>tD (eW cg) (({(ac.mk n2.Op n2.A n2.B n2.M' r n2.Left n2.f_ r1 n2.L' n2.N' r2 n2.Z')with f_:=({(ac.mk n2.Op n2.A n2.B n2.M' r n2.Left n2.f_ r1 n2.L' n2.N' r2 n2.Z').f_ with u':=r3}:bD)}:ac).N'),some 4⟩],_,J,⟨(fun _=>J),aW⟩,J,J,J,fun sg=>cL J (JQ (xs:=[.tmp 45]) (ts:=[tD (eW cg) (({(ac.mk n2.Op n2.A n2.B n2.M' r n2.Left n2.f_ r1 n2.L' n2.N' r2 n2.Z')with f_:=({(ac.mk n2.Op n2.A n2.B n2.M' r n2.Left n2.f_ r1 n2.L' n2.N' r2 n2.Z').f_ with u':=r3}:bD)}:ac).N')]) afm (XW _ q_r5) ⟨(Y J),aW⟩)⟩,
    ⟨⟨[⟨2,fun _=>tV (an b 0),none⟩],_,1,2,J,⟨(fun _=>J),aW⟩,J,J,J,J,J,fun _ sg _ _=>aa J (qd 8 kI J J J)⟩,
    aW⟩⟩⟩⟩⟩⟩⟩ (fun sg=>?_)
   refine(show RG _ _ _ _ [_,_,_,_,_] _ from ?_);refine gi<|f9 tm J (Cd _ _) J (Y J) (Ih (Y J))<|bI 9 qT J<|f9 zP J (yT _ _ _) J (Y J) (Ih (Y J))<|bA<|bc<|bI 8 kI J<|M (jH tm wH (.head _) J (Y J))<|M (iF oP (.tail _ (.tail _ (.head _))) (Y J))<|M (bH hI)<|bA<|am<|oB (.tail _ (.tail _ (.head _))) fun hN=>bE<|fK<|r0<|gE<|qq<|qq<|fK ?_;refine aE (qc (h3:=fun ls i n3=>(r4.drop i=ls)/\p8 ls i n3=some R) (Of:=fun _ i n3=>[bx al 48 b1 WQ,bx oe 48 b (q9 n3 (ak ((sg 2).h 0).1 ((sg 2).h 0).2 n3.L'.length) (ak ((sg 5).h 0).1 ((sg 5).h 0).2 n3.N'.length)),fa eg 56 ((sg 2).h 0).1 ((sg 2).h 0).2 n3.L',fa cg 43 ((sg 5).h 0).1 ((sg 5).h 0).2 n3.N']) (Gf:=fun _ i n3=>[(2,tV (an b 0)),(4,tV (an b1 0)),(51,jg r4),(52,bX (i:Int))]) (fun i n3 h=>?_) (fun e tl ih i n3 h=>?_) r4 0 ({({({(ac.mk n2.Op n2.A n2.B n2.M' r n2.Left n2.f_ r1 n2.L' n2.N' r2 n2.Z')with f_:=({(ac.mk n2.Op n2.A n2.B n2.M' r n2.Left n2.f_ r1 n2.L' n2.N' r2 n2.Z').f_ with u':=r3}:bD)}:ac)with L':=r4}:ac)with N':=r5}:ac) ⟨J,h⟩) (aX J)
   ·obtain⟨I,h⟩:=h;refine dH I J<|ax<|bc<|bI 9 qT J<|M (jH zP wG (.tail _ (.head _)) J (Y J))<|M (iF s7 (.tail _ (.tail _ (.tail _ (.head _)))) (Y J))<|M (bH hI)<|bA<|am<|oB (.tail _ (.tail _ (.tail _ (.head _)))) fun hN1=>?_;refine bE ?_;refine aE (qc (h3:=fun ls1 i1 n4=>(n3.N'.drop i1=ls1)/\p7 ls1 i1 n4=some R) (Of:=fun _ i1 n4=>[bx al 48 b1 WQ,bx oe 48 b (q9 n4 (ak ((sg 2).h 0).1 ((sg 2).h 0).2 n4.L'.length) (ak ((sg 5).h 0).1 ((sg 5).h 0).2 n4.N'.length)),fa eg 56 ((sg 2).h 0).1 ((sg 2).h 0).2 n4.L',fa cg 43 ((sg 5).h 0).1 ((sg 5).h 0).2 n4.N']) (Gf:=fun _ i1 n4=>[(2,tV (an b 0)),(4,tV (an b1 0)),(72,jg n3.N'),(73,bX (i1:Int))]) (fun i1 n4 h=>?_) (fun e1 tl1 ih1 i1 n4 h=>?_) n3.N' 0 n3 ⟨J,h⟩) (aX J)
    ·obtain⟨m_,h⟩:=h;refine dH m_ J<|ax<|aV<|gi<|qo<|eh<|qo<|M (wA (q:=al) (y:=n4) dc J J J J (.tail _ (.tail _ (.tail _ (.head _)))) (fun _ _ _ ho h=>DD (nM ho (.tail _ (.head _))) (nM ho (.head _)) h) (Y J))<|gi<|bv dc ae J<|aH 4 J<|bm ?_;exact ax<|kM<|aJ<|aJ<|aJ<|so h▸gF J dc J J J
    ·obtain⟨m_,h⟩:=h;refine dG m_ J<|aw<|am<|aB J<|aU J<|cy h fun e2 M_ h=>cy h fun r6 q_r6 h=>?_;refine mS 12 (ts:=[tV (an b 9),tV (ak ((sg 5).h 0).1 ((sg 5).h 0).2 n4.N'.length),bX (i1:Int),tV (an b 9),tV (ak ((sg 5).h 0).1 ((sg 5).h 0).2 n4.N'.length),bX (i1:Int),tV (qv ((sg 5).h 0).1 ((i1:Int).toNat*1+0)),tV (qv ((sg 5).h 0).1 ((i1:Int).toNat*1+0)),fI (bJ) e2.u',fI (bJ) r6,tV (qv ((sg 5).h 0).1 ((i1:Int).toNat*1+0)),tV (qv ((sg 5).h 0).1 ((i1:Int).toNat*1+0))]) mixed J J J
      ⟨oU 2 J J (qd 9 qT J J J),
      ⟨dy 76 0 J J (jH zP wG (.tail _ (.head _)) J (Y J)),
      ⟨fg J J,
      ⟨oU 2 J J (qd 9 qT J J J),
      ⟨dy 79 3 J J (jH zP wG (.tail _ (.head _)) J (Y J)),
      ⟨fg J J,
      ⟨eQ 80 4 81 5 J J J (c9 s7 jM (.tail _ (.tail _ (.tail _ (.head _)))) (Y J) (Y J) M_),
      ⟨dy 82 6 J J (jh (o:=(i1:Int).toNat*1+0) (n:=(i1:Int).toNat*1+0) gI J (.tail _ (.tail _ (.tail _ (.head _)))) M_ (Y J) J),
      ⟨dy 83 7 J J (il (r:=cg) (i:=(i1:Int)) (J_:=0) pC J J dF J (.tail _ (.tail _ (.tail _ (.head _)))) M_ (Y J)),
      ⟨dy 84 8 J J (cq YS (VX _ q_r6) ⟨(Y J),aW⟩),
      ⟨eQ 77 1 78 2 J J J (c9 s7 jM (.tail _ (.tail _ (.tail _ (.head _)))) (Y J) (Y J) M_),
      ⟨dy 86 10 J J (jh (o:=(i1:Int).toNat*1+0) (n:=(i1:Int).toNat*1+0) gI J (.tail _ (.tail _ (.tail _ (.head _)))) M_ (Y J) J),
      aW⟩⟩⟩⟩⟩⟩⟩⟩⟩⟩⟩⟩ ?_
     refine eh<|cy h fun st R_ h=>pw pC J Eo J M_ (so R_) (Y J) (Y J)<|ir (gS (so R_)) 77 J<|ir (gS (so R_)) 80 J<|yz (O' :=[fa cg 43 ((sg 5).h 0).1 ((sg 5).h 0).2 st,bx al 48 b1 WQ,bx oe 48 b (q9 n4 (ak ((sg 2).h 0).1 ((sg 2).h 0).2 n4.L'.length) (ak ((sg 5).h 0).1 ((sg 5).h 0).2 st.length)),fa eg 56 ((sg 2).h 0).1 ((sg 2).h 0).2 n4.L']) (by first|(rw [gS (so R_)];done)|(rw [gS (so R_)];exact J)|exact J)<|bm<|dg m_ hN1 J<|aM<|aM<|aM ?_;exact aT (aE (ih1 (i1+1) ({n4 with N':=st}:ac) ⟨cV m_,h⟩) (aX J))
   ·obtain⟨I,h⟩:=h;refine dG I J<|aw<|am<|aB J<|aU J<|cy h fun e3 P_ h=>cy h fun r7 q_r7 h=>?_;refine mS 14 (ts:=[tV (an b 8),tV (ak ((sg 2).h 0).1 ((sg 2).h 0).2 n3.L'.length),bX (i:Int),tV (an b 8),tV (ak ((sg 2).h 0).1 ((sg 2).h 0).2 n3.L'.length),bX (i:Int),tV (qv ((sg 2).h 0).1 ((i:Int).toNat*2+0)),tV (qv ((sg 2).h 0).1 ((i:Int).toNat*2+1)),tV (qv ((sg 2).h 0).1 ((i:Int).toNat*2+1)),fI (bJ) e3.N_.u',fI (bJ) r7,tV (qv ((sg 2).h 0).1 ((i:Int).toNat*2+0)),tV (qv ((sg 2).h 0).1 ((i:Int).toNat*2+1)),tV (qv ((sg 2).h 0).1 ((i:Int).toNat*2+1))]) mixed J J J
     ⟨oU 2 J J (qd 8 kI J J J),
     ⟨dy 55 0 J J (jH tm wH (.tail _ (.head _)) J (Y J)),
     ⟨fg J J,
     ⟨oU 2 J J (qd 8 kI J J J),
     ⟨dy 58 3 J J (jH tm wH (.tail _ (.head _)) J (Y J)),
     ⟨fg J J,
     ⟨eQ 59 4 60 5 J J J (c9 oP oT (.tail _ (.tail _ (.head _))) (Y J) (Y J) P_),
     ⟨dy 61 6 J J (jh (o:=(i:Int).toNat*2+0) (n:=(i:Int).toNat*2+1) xO J (.tail _ (.tail _ (.head _))) P_ (Y J) J),
     ⟨dy 62 7 J J (jh (o:=(i:Int).toNat*2+1) (n:=(i:Int).toNat*2+1) gI J (.tail _ (.tail _ (.head _))) P_ (Y J) J),
     ⟨dy 63 8 J J (il (r:=eg) (i:=(i:Int)) (J_:=1) pC J J (gj rK dF) J (.tail _ (.tail _ (.head _))) P_ (Y J)),
     ⟨dy 64 9 J J (cq YS (VX _ q_r7) ⟨(Y J),aW⟩),
     ⟨eQ 56 1 57 2 J J J (c9 oP oT (.tail _ (.tail _ (.head _))) (Y J) (Y J) P_),
     ⟨dy 66 11 J J (jh (o:=(i:Int).toNat*2+0) (n:=(i:Int).toNat*2+1) xO J (.tail _ (.tail _ (.head _))) P_ (Y J) J),
     ⟨dy 67 12 J J (jh (o:=(i:Int).toNat*2+1) (n:=(i:Int).toNat*2+1) gI J (.tail _ (.tail _ (.head _))) P_ (Y J) J),
     aW⟩⟩⟩⟩⟩⟩⟩⟩⟩⟩⟩⟩⟩⟩ ?_
    refine gi<|cy h fun st1 q_st1 h=>pw pC J (AY rK UW Eo) J P_ (so q_st1) (Y J) (Y J)<|ir (gS (so q_st1)) 56 J<|ir (gS (so q_st1)) 59 J<|yz (O' :=[fa eg 56 ((sg 2).h 0).1 ((sg 2).h 0).2 st1,bx al 48 b1 WQ,bx oe 48 b (q9 n3 (ak ((sg 2).h 0).1 ((sg 2).h 0).2 st1.length) (ak ((sg 5).h 0).1 ((sg 5).h 0).2 n3.N'.length)),fa cg 43 ((sg 5).h 0).1 ((sg 5).h 0).2 n3.N']) (by first|(rw [gS (so q_st1)];done)|(rw [gS (so q_st1)];exact J)|exact J)<|bm<|dg I hN J<|aM<|bj<|aM<|aM ?_;exact aT (aE (ih (i+1) ({n3 with L':=st1}:ac) ⟨cV I,h⟩) (aX J))
  ·skip;refine aV<|bI 2 oN J<|M (ay bN J J jd (.head _) (Y J))<|M (eT (Y J) hI)<|cD h J (fun h=>?_) (fun h=>?_)
   ·refine au<|bI 2 oN J<|M (ay bN J J jd (.head _) (Y J))<|aQ J<|M (nT (Y J) (Y J))<|bI 2 oN J<|bv bN se J<|bm ?_;exact bQ (K1 (ac.mk n1.Op n1.A (i64.wrap (n1.B+by1)) n1.M' n1.U' n1.Left n1.f_ n1.I' n1.L' n1.N' n1.Y' n1.Z') h) (aX J)
   ·refine bl ?_;exact bQ (K1 n1 h) (aX J)
 ·skip;refine aV<|bI 1 j8 J<|M (ay bN J J d8 (.tail _ (.head _)) (Y J))<|M (eT (Y J) hI)<|cD h J (fun h=>?_) (fun h=>?_)
  ·refine au<|bI 1 j8 J<|M (ay bN J J d8 (.tail _ (.head _)) (Y J))<|aQ J<|M (nT (Y J) (Y J))<|bI 1 j8 J<|bM<|bv bN uh J<|bm ?_;exact bQ (hb (ac.mk n.Op (i64.wrap (n.A+by1)) n.B n.M' n.U' n.Left n.f_ n.I' n.L' n.N' n.Y' n.Z') h) (aX J)
  ·refine bl<|bj ?_;exact bQ (hb n h) (aX J)
