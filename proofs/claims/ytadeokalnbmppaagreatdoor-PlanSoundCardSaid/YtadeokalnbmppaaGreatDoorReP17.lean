import Derived.Test.YtadeokalnbmppaaGreatDoorReT
import Derived.Test.YtadeokalnbmppaaGreatDoorReP16
import Derived.Test.YtadeokalnbmppaaGreatDoorReMT
set_option linter.all false
namespace Go.Proofs.YtadeokalnbmppaaGreatDoor
open Go IntKind Tryz
set_option maxRecDepth 100000
def ac5 q c{R}(h:ul q c=some R):cN aL 9 [tD cw q,tD eH c] (tT [bX R.1,bX R.2.1,bX R.2.2]):=by
 refine dL func9 J<|aV<|cR J<|cR J<|cM<|cM<|cM<|bA<|Ic<|aV<|cx qG J<|cx Cb J<|eG h adA (V1 _ _) (cA J) fun r h=>aQ J<|dq J J<|dq J J<|dq J J<|dq J J<|fX J<|fX J ?_;refine fX J<|aU J<|bc<|aQ J<|mn J<|cD h J (fun h=>?_) (fun h=>?_)
 ·exact aB J<|aQ J<|aQ J<|fX J<|fX J<|bz J<|ai<|sW<|so h▸tY J J J J
 ·refine kp<|aV<|cM<|cM<|bA<|aw<|Id<|ax<|bc<|bg jz fv qY J<|cm pH J<|M (bH hI)<|bA ?_;refine J4 (h3:=fun w_ place=>uI w_ place=some R) (Of:=fun w_ place=>[]) (Gf:=fun w_ place=>[(11,bX w_),(12,bX place)]) (fun w_ place h=>?_) (fun hb=>?_)
  ·skip;refine ax<|bc<|aQ J<|M (eT (Y J) hI)<|cD h J (fun h=>?_) (fun h=>?_)
   ·exact aB J<|aQ J<|fX J<|fX J<|jK<|ai<|sW<|so h▸tY J J J J
   ·exact kp<|aV<|cM<|cM<|jK<|sW<|so h▸tY J J J J
  ·skip;refine aR (k:=31) J fun hN=>bE ?_;refine aE (ox (h3:=fun ls i frag1 place1=>(q.J'.drop i=ls)/\qi r ls i frag1 place1=some R) (Of:=fun _ i frag1 place1=>[]) (Gf:=fun _ i frag1 place1=>[(7,tD ue r.1),(11,bX frag1),(12,bX place1),(31,fI (bk) q.J'),(32,jg q.J'),(33,bX (i:Int))]) (fun i frag1 place1 h=>?_) (fun e tl ih i frag1 place1 h=>?_) q.J' 0 CU 0 ⟨J,h⟩) (aX J)
   ·obtain⟨I,h⟩:=h;refine dH I J ?_;exact bQ (hb frag1 place1 h) (aX J)
   ·obtain⟨I,h⟩:=h;refine dG I J<|aw<|am<|aB J<|dN pH nP J (dE I)<|aO nP td J fun b=>fX J<|bv nP ae J<|aH 14 J<|bA<|aw ?_;refine au<|aQ J<|aQ J<|t7 h afY (X1 _ _) (cA J) fun r1 h l c1=>aU J<|bc<|bg tJ mz o5 J<|cm kw J<|M (bH hI)<|bA<|am<|aR (k:=42) J fun hN1=>bE<|Ug<|Ol 40 J<|Ol 15 J ?_;refine aE (ox (h3:=fun ls1 i1 frag2 place2=>(e.u'.drop i1=ls1)/\qh r (qi r tl) i r1 ls1 i1 frag2 place2=some R) (Of:=fun _ i1 frag2 place2=>[dM dU 89 l c1 r1]) (Gf:=fun _ i1 frag2 place2=>[(7,tD ue r.1),(11,bX frag2),(12,bX place2),(13,bX (i:Int)),(15,tO dU l c1 r1),(31,fI (bk) q.J'),(32,jg q.J'),(33,bX (i:Int)),(43,jg e.u'),(44,bX (i1:Int))]) (fun i1 frag2 place2 h=>?_) (fun e1 tl1 ih1 i1 frag2 place2 h=>?_) e.u' 0 frag1 place1 ⟨J,h⟩) (aX J)
    ·obtain⟨m_,h⟩:=h;refine dH m_ J<|ax<|aB J<|aQ J<|M (iY BK (nt (Y J)))<|M (ij (Y J) hI)<|cy h fun e2 M_ h=>M (aS BK jL J (nt (Y J)) (Y J) M_)<|bg tI my bN J<|cz J ?_;refine cD h J (fun h=>?_) (fun h=>?_)
     ·refine aB J<|aQ J<|M (iY BK (nt (Y J)))<|M (ij (Y J) hI)<|fX J<|aU J<|iN<|cI J<|aN<|aN<|dY<|aJ ?_;exact bQ (hb (i:Int) (i64.wrap ((r1.length:Int)-1)) h) (aX J)
     ·refine bl<|dg I hN J<|aJ ?_;exact aT (aE (ih (i+1) frag2 place2 ⟨cV I,h⟩) (aX J))
    ·obtain⟨m_,h⟩:=h;refine dG m_ J<|aw<|am<|aB J<|aU J<|aB J<|aQ J<|aQ J<|aQ J ?_;refine eG h afX (aby _ _ _ _) ⟨(Y J),(Y J),(Y J),(nt (Y J)),aW⟩ fun r2 h=>M (gz (Y J))<|cD h J (fun h=>?_) (fun h=>?_)
     ·refine aB J<|aQ J<|fX J<|aU J<|iN<|cI J<|aN<|aN<|cI J<|aN<|cI J<|aN<|aN<|dY<|aJ ?_;exact bQ (hb (i:Int) (i1:Int) h) (aX J)
     ·refine bl<|dg m_ hN1 J ?_;exact aT (aE (ih1 (i1+1) frag2 place2 ⟨cV m_,h⟩) (aX J))
def abM p{R}(h:q6 p=some R):cN aL 11 [tD cw p] (tT [gM R.1,bX R.2]):=by
 refine dL func11 J<|aV<|cR J<|lU bY<|cM<|bA<|bc<|bg jz fv qY J<|cm pH J<|cz J<|cD h J (fun h=>?_) (fun h=>?_)
 ·exact aV<|lU bY<|jK<|ai<|so h▸ff J J J
 ·refine kp<|aV<|bg jz fv qY J<|bg jz fv qY J<|cm pH J<|M (ij (Y J) hI)<|cy h fun e U_ h=>vA pH nP J U_<|bg tJ mz o5 J<|eG h adz (V0 _) (cA J) fun r h=>aQ J<|dq J J<|dq J J<|dq J J<|fX J<|fX J<|fX J<|bm ?_;refine ax<|bc<|aQ J<|mn J<|cD h J (fun h=>?_) (fun h=>?_)
  ·exact aB J<|lU bY<|bz J<|ai<|so h▸ff J J J
  ·exact kp<|aB J<|aQ J<|cm qt J<|M (ij (Y J) hI)<|cy h fun e1 s_ h=>dN qt bK J s_<|fX J<|jK<|so h▸ff J J J
def adk l c{R}(h:vt l c=some R):cN aL 3 [tD dO l,tD eH c] (gp R):=by
 refine dL func3 J<|aV<|cR J<|cR J<|bn<|bA<|bc<|eG h cb4 ada trivial fun r h=>M (gz (Y J))<|cD h J (fun h=>?_) (fun h=>?_)
 ·exact aV<|bn<|bO<|ai<|so h▸aD J J
 ·refine kp<|bc<|bg tL mJ o5 J<|eG h cb5 (ac9 _) (cA J) fun r1 h=>aQ J<|cy h fun t Z_ h=>aC J (fun H=>m9 Cb J J) ?_;obtain⟨r2,B_,h0t⟩:=og Z_;have q_r2g:=fun K=>(B_ K).1;refine aC J (fun H=>cq cb6 (ac7 _ (q_r2g H)) ⟨(br J H),aW⟩)<|M (iz (Y J) (fun K=>(br J (sn K))) (fun K=>(B_ K).2) h0t)<|cD h J (fun h=>?_) (fun h=>?_)
  ·exact aV<|bn<|bO<|ai<|so h▸aD J J
  ·refine kp<|aV<|cx t6 J<|cx Cb J<|eG h cb7 (Zv _ _) (cA J) fun r3 h=>aQ J<|dq J J<|dq J J<|aO qG vF J fun b=>bv qG ae J<|aH 5 J<|aU J<|bc<|aQ J<|mn J<|bA ?_;refine oS h J (fun h=>?_) (fun h=>?_)
   ·exact aV<|bg jz fv qY J<|cm pH J<|cz J<|bz J<|ai<|so h▸aD J J
   ·refine kp<|bc<|cx qG J<|cx Cb J<|eG h cb8 (ac6 _ _) (cA J) fun r4 h=>aQ J<|dq J J<|dq J J<|dq J J<|fX J<|fX J<|aU J<|aB J<|mn J<|bA ?_;refine oS h J (fun h=>?_) (fun h=>?_)
    ·exact aV<|bn<|bO<|ai<|so h▸aD J J
    ·refine kp<|bc<|cx qG J<|cx Cb J<|eG h cb9 (ac5 _ _) (cA J) fun r5 h=>aQ J<|dq J J<|dq J J<|dq J J<|fX J<|fX J<|aU J<|aB J<|mn J<|bA ?_;refine oS h J (fun h=>?_) (fun h=>?_)
     ·exact aV<|bn<|bO<|ai<|so h▸aD J J
     ·refine kp<|aV<|wO UA vG J fun b1=>aU J<|bc<|bg tL mJ o5 J<|cm kw J<|M (bH hI)<|bA<|am<|aR (k:=67) J fun hN=>bE ?_;refine aE (ox (h3:=fun ls i scans os=>(l.u'.drop i=ls)/\lG l r3 ls scans=some R) (Of:=fun _ i scans os=>[sr UA vG b1 none os scans]) (Gf:=fun _ i scans os=>[(2,aY dO l),(5,aY cw r3.1),(13,tV (ni b1)),(67,fI (al) l.u'),(68,jg l.u'),(69,bX (i:Int))]) (fun i scans os h=>?_) (fun e tl ih i scans os h=>?_) l.u' 0 ([]:List (Int×Int)) [] ⟨J,h⟩) (aX J)
      ·obtain⟨I,h⟩:=h;refine dH I J<|ax<|bc<|bg jz fv qY J<|cm pH J<|M (bH hI)<|bA<|am<|aR (k:=83) J fun hN1=>?_;refine bE ?_;refine aE (ox (h3:=fun ls1 i1 scans1 os1=>(r3.1.J'.drop i1=ls1)/\jb l r3 ls1 scans1=some R) (Of:=fun _ i1 scans1 os1=>[sr UA vG b1 none os1 scans1]) (Gf:=fun _ i1 scans1 os1=>[(2,aY dO l),(5,aY cw r3.1),(13,tV (ni b1)),(83,fI (bk) r3.1.J'),(84,jg r3.1.J'),(85,bX (i1:Int))]) (fun i1 scans1 os1 h=>?_) (fun e1 tl1 ih1 i1 scans1 os1 h=>?_) r3.1.J' 0 scans os ⟨J,h⟩) (aX J)
       ·obtain⟨m_,h⟩:=h;refine dH m_ J<|ax<|bc<|aQ J<|Od (fun a b e=>by injection e) LP (Y J) J fun rg=>bA<|am<|bE ?_;refine aE (Zc (h3:=fun ls2=>eI l r3 scans1 ls2=some R) (Of:=fun ls2 cur=>[HA UA vG b1 rg os1 scans1 ls2 cur]) (Gf:=[(2,aY dO l),(5,aY cw r3.1),(107,tV (an rg 0))]) (fun ls2 cur h ih2=>?_) (scans1.map Prod.fst) none h) (aX J);refine lI<|aV ?_;refine QC (fun a b e=>by injection e) (Y J) J (fun hl=>?_) (fun e2 hk=>?_)
        ·subst hl;refine M (y7 (Y J))<|bA<|aw<|wU (Y J) J<|iN<|aN<|aN<|dY<|ax<|aV<|cx t6 J<|eG h aeJ (V7 _) (cA J) fun r6 h=>aQ J<|dq J J<|dq J J<|fX J<|aU J<|aV ?_;refine cx qG J<|eG h af6 (abM _) (cA J) fun r7 h=>aQ J<|dq J J<|dq J J<|fX J<|aU J<|bc<|aQ J<|mn J<|aQ J<|aC J (cY J)<|aC J (uV J)<|fV J<|aQ J<|aC J (cY J)<|aC J (fM dI J)<|aC J (cY J)<|aC J (fM dI J) ?_;refine aC J (fun H=>jV (br J H) (br J H))<|fV J<|cD h J (fun h=>?_) (fun h=>?_)
         ·exact aV<|bn<|bO<|ai<|aJ<|so h▸aD J J
         ·refine kp<|bc<|aQ J<|cm dI J<|M (bH hI)<|bA<|am<|aR (k:=137) J fun hN2=>bE<|r0 ?_;refine aE (fj (h3:=fun ls3 i2=>(r6.1.drop i2=ls3)/\nE r7 ls3 i2=some R) (Of:=fun _ i2=>[]) (Gf:=fun _ i2=>[(22,gM r6.1),(23,gM r7.1),(138,jg r6.1),(139,bX (i2:Int))]) (fun i2 h=>?_) (fun e3 tl3 ih3 i2 h=>?_) r6.1 0 ⟨J,h⟩) (aX J)
          ·obtain⟨hx2,h⟩:=h;exact dH hx2 J<|ax<|aV<|bn<|bO<|so h▸aD J J
          ·obtain⟨hx2,h⟩:=h;refine dG hx2 J<|aw<|am<|aB J<|aU J<|aw<|cy h fun e4 q_e4 h=>?_;refine eE (ts:=[_,_,_,_,_,_,_,_,_]) mixed J J
            ⟨fg J J,
            ⟨fg J J,
            ⟨eQ 142 0 143 1 J J J (GN dI bN J J J (dE hx2)),
            ⟨gH 2 bN J J,
            ⟨fg J J,
            ⟨fg J J,
            ⟨eQ 146 4 147 5 J J J (GN dI bN J J J q_e4),
            ⟨gH 6 bN J J,
            ⟨eQ 145 3 149 7 J J J (jV (Y J) (Y J)),
            aW⟩⟩⟩⟩⟩⟩⟩⟩⟩ ?_
           refine ax<|oS h J (fun h=>?_) (fun h=>?_)
           ·exact aV<|bn<|bO<|dB<|ai<|dB<|so h▸aD J J
           ·refine bl<|dg hx2 hN2 J ?_;exact aT (aE (ih3 (i2+1) ⟨cV hx2,h⟩) (aX J))
        ·have h:=(yj hk).trans h;refine M (y7 (Y J))<|bA<|aw<|wT (Y J) J<|kp<|am<|aV<|M (KO 0 (fun a b e=>by injection e) (.head _) (Y J))<|M (Hv (Y J))<|aU J<|aB J<|mn J<|cD h J (fun h=>?_) (fun h=>?_)
         ·exact aV<|bn<|bO<|dB<|dB<|aJ<|so h▸aD J J
         ·refine bl<|bf ?_;exact aT (aE (ih2 (ls2.filter (fun y=>y≠e2)) (some e2) (TM hk) h) (aX J))
       ·obtain⟨m_,h⟩:=h;refine dG m_ J<|aw<|am<|aV<|dN pH nP J (dE m_)<|aO nP td J fun b2=>bv nP ae J<|aH 17 J<|bA<|aV<|qx tJ mz J ?_;refine cx o5 J<|cm kw J<|M (bH hI)<|bA<|am<|aR (k:=90) J fun hN3=>bE ?_;refine aE (ox (h3:=fun ls4 i3 scans2 os2=>(e1.u'.drop i3=ls4)/\lF (jb l r3 tl1) ls4 scans2=some R) (Of:=fun _ i3 scans2 os2=>[sr UA vG b1 none os2 scans2]) (Gf:=fun _ i3 scans2 os2=>[(2,aY dO l),(5,aY cw r3.1),(13,tV (ni b1)),(83,fI (bk) r3.1.J'),(84,jg r3.1.J'),(85,bX (i1:Int)),(90,fI (al) e1.u'),(91,jg e1.u'),(92,bX (i3:Int))]) (fun i3 scans2 os2 h=>?_) (fun e5 tl4 ih4 i3 scans2 os2 h=>?_) e1.u' 0 scans1 os1 ⟨J,h⟩) (aX J)
        ·obtain⟨hx3,h⟩:=h;refine dH hx3 J<|dg m_ hN1 J ?_;exact aT (aE (ih1 (i1+1) scans2 os2 ⟨cV m_,h⟩) (aX J))
        ·obtain⟨hx3,h⟩:=h;refine dG hx3 J<|aw<|am<|aV<|dN kw dc J (dE hx3)<|aO dc fC J fun b3=>bv dc ae J<|aH 19 J<|bA<|aV<|qx jy dA J ?_;refine cx bN J<|cz J<|cD h J (fun h=>?_) (fun h=>?_)
         ·refine au<|aQ J<|bg oM gC bN J<|M (Cs (γ:=fun y:Int=>tD bY y) (z:=0) LP (dV ld) zv3 (fun S=>⟨_,J,(fun _=>J) S⟩) (.head _) (Y J) (nQ (Y J)))<|M (ij (Y J) hI)<|Sa (γ:=fun y:Int=>bX y) LP (dV ld) (Y J) (nQ (Y J)) (Y J) fun os3=>bm<|dg hx3 hN3 J ?_;exact aT (aE (ih4 (i3+1) (dC scans2 e5.M' (i64.wrap (((jC scans2 e5.M').getD 0)-1))) os3 ⟨cV hx3,h⟩) (aX J))
         ·refine bl<|dg hx3 hN3 J ?_;exact aT (aE (ih4 (i3+1) scans2 os2 ⟨cV hx3,h⟩) (aX J))
      ·obtain⟨I,h⟩:=h;refine dG I J<|aw<|am<|aV<|dN kw dc J (dE I)<|aO dc fC J fun b4=>bv dc ae J<|aH 15 J<|bA<|aV<|qx jy dA J ?_;refine cx bN J<|cz J<|cD h J (fun h=>?_) (fun h=>?_)
       ·refine au<|aQ J<|bg oM gC bN J<|M (Cs (γ:=fun y:Int=>tD bY y) (z:=0) LP (dV ld) zv3 (fun S=>⟨_,J,(fun _=>J) S⟩) (.head _) (Y J) (nQ (Y J)))<|M (nT (Y J) hI)<|Sa (γ:=fun y:Int=>bX y) LP (dV ld) (Y J) (nQ (Y J)) (Y J) fun os4=>bm<|dg I hN J ?_;exact aT (aE (ih (i+1) (dC scans e.M' (i64.wrap (((jC scans e.M').getD 0)+1))) os4 ⟨cV I,h⟩) (aX J))
       ·refine bl<|dg I hN J ?_;exact aT (aE (ih (i+1) scans os ⟨cV I,h⟩) (aX J))
