import Derived.Test.YtdohlidddcgfjaaGreatFgT
import Derived.Test.YtdohlidddcgfjaaGreatFgP16
set_option linter.all false
namespace Go.Proofs.YtdohlidddcgfjaaGreat
open Go IntKind Tryz
set_option maxRecDepth 100000
def Qx n parts{R}(h:eP n parts=some R):dk bt 94 [tD aQ n,ek (oH) parts] (tT [lk R.1,fU R.2]):=by
 refine dX func94 J<|O<|ss (D J) J fun b=>fb cj<|bo<|bC<|O<|cn true aQ 89<|bD (r:=pq) (x:=rr (⟨[]⟩:fx) (aI none 0 (U0.length))) IY Pb J fun b1=>bC<|aN<|Z J<|bX wF J<|X (cB hI)<|bC<|ak<|bJ (k:=14) J fun hN=>?_;refine bK<|fT<|fT<|jk ?_;refine aM (Bu (aH:=fun ls i n1 l l1 c=>(parts.drop i=ls)/\cA ls i n1 l=some R) (Of:=fun _ i n1 l l1 c=>[s aQ 89 b n1,s pq 93 b1 (rr l (aI l1 c l.i'.length)),lP aQ 89 l1 c l.i']) (Gf:=fun _ i n1 l l1 c=>[(2,Q (M b 0)),(6,Q (M b1 0)),(14,ek (oH) parts),(15,mR parts),(16,bI (i:Int))]) (fun i n1 l l1 c h=>?_) (fun e tl ih i n1 l l1 c h=>?_) parts 0 n (⟨U0⟩:fx) none 0 ⟨J,h⟩) (aX J)
 ·obtain⟨K,h⟩:=h;refine gk K J<|an<|O<|aR 0 qC J<|X (iJ sE se (.tail _ (.head _)) (.tail _ (.tail _ (.head _))) J (D J))<|X (aA dL J J bm (.head _) (D J))<|X (aT (r:=aQ) (ys:=[n1]) (xs:=[.tmp 71]) mn dL J J J J J ⟨(D J),aV⟩)<|cd<|bR h fun l2 q_l2 h=>nj dL J J J J mn J J (D J) (D J) q_l2 fun l3 c1=>aR 0 qC J<|cd ?_;exact gi sE J (vr _ _ _) J (D J) (Fb (DE (D J)))<|bC<|O<|bf<|X (gG (q:=m5) (y:=({l with i':=l2}:fx)) IY J J J J (.tail _ (.head _)) (fun _ _ _ ho h=>Gm (f7 ho (.head _)) h) (D J))<|aR 0 qC J<|X (iJ sE se (.tail _ (.head _)) (.head _) J (D J))<|X (fK mn (mY (D J)))<|X (ec (D J) hI)<|ej h Xf (ZJ _ _) (co J) fun r h=>dJ J J<|dJ J J<|dM J<|ba J<|aF<|aF<|aF<|so h▸cM J J J
 ·obtain⟨K,h⟩:=h;refine gj K J<|aS<|ak<|aw J<|eE wF cV J (fh K)<|dM J<|aK J<|aN ?_;refine Z J<|ej h afk (ZL _) (co J) fun r1 h=>bV h J (fun h=>?_) (fun h=>?_)
  ·exact O<|fb cj<|bo<|bF<|ae<|cF<|ae<|cF<|aF<|aF<|aF<|so h▸cM J J J
  ·refine fy<|O<|X (aT (r:=cj) (ys:=[1,2,3]) (xs:=[.const (.int .i64 (1)),.const (.int .i64 (2)),.const (.int .i64 (3))]) eh bH J J J J J ⟨hI,hI,hI,aV⟩)<|X (cI (y:=XM) dL Yx jd (⟨_,_,_,_,_,J,wT,J,hI,⟨_,_,_,_,_,J,m3,J,hI,⟨_,_,_,_,_,J,m0,J,hI,⟨_,_,_,_,_,J,Ho,J,(D J),J⟩⟩⟩⟩))<|bD dL jd J fun b2=>be dL aq J<|bj 9 J<|bC<|O<|aR 0 qC J<|X (iJ sE se (.tail _ (.head _)) (.tail _ (.tail _ (.head _))) J (D J))<|X (fK mn (mY (D J)))<|cn true bT 84<|X (cI (y:=rs (⟨5,(l.i'.length:Int),(-1),0,[],false,⟨[]⟩,[],[],[],[],0⟩:al) (aI none 0 (UY.length))) dL Yx GU (⟨_,_,_,_,_,J,Ld,J,hI,⟨_,_,_,_,_,J,Lc,J,(D J),⟨_,_,_,_,_,J,La,J,hI,J⟩⟩⟩))<|cn true bT 84<|bD (r:=lR) (x:=rs U1 (aI none 0 (UY.length))) dL GU J fun b3=>cd<|bf<|gi (r' :=lR) dL J (oL J) J (D J) (D J)<|cd ?_;refine aaf<|bC<|aN<|Z J<|bX eh J<|X (cB hI)<|bC<|ak<|bJ (k:=29) J fun hN1=>bK<|fT<|fT<|qu<|qu<|qu ?_;refine aM (nX (aH:=fun ls1 i1 p l4 c2=>(e.drop i1=ls1)/\eT (cA tl) i n1 l ls1 p=some R) (Of:=fun _ i1 p l4 c2=>[s aQ 89 b n1,s pq 93 b1 (rr l (aI l1 c l.i'.length)),lP aQ 89 l1 c l.i',s lR 89 b3 (rs p (aI l4 c2 p.D'.length)),lP bT 84 l4 c2 p.D']) (Gf:=fun _ i1 p l4 c2=>[(2,Q (M b 0)),(6,Q (M b1 0)),(7,bI (i:Int)),(9,da aQ XM),(10,Q (M b3 0)),(14,ek (oH) parts),(15,mR parts),(16,bI (i:Int)),(29,lk e),(30,mR e),(31,bI (i1:Int))]) (fun i1 p l4 c2 h=>?_) (fun e1 tl1 ih1 i1 p l4 c2 h=>?_) e 0 (⟨5,(l.i'.length:Int),(-1),0,[],false,⟨[]⟩,[],[],UY,[],0⟩:al) none 0 ⟨J,h⟩) (aX J)
   ·obtain⟨l_,h⟩:=h;refine gk l_ J<|an<|O<|aR 0 qC J<|X (iJ sE se (.tail _ (.head _)) (.tail _ (.tail _ (.head _))) J (D J))<|eb dL J<|eJ<|X (gG (q:=aQ) (y:=p) dL J J J J (.tail _ (.tail _ (.tail _ (.tail _ (.head _))))) (fun _ _ _ ho h=>Gn (f7 ho (.head _)) h) (D J))<|X (aT (r:=aQ) (ys:=[XM,p]) (xs:=[.tmp 51,.tmp 52]) mn dL J J J J J ⟨(D J),(D J),aV⟩)<|dI<|bR h fun l5 q_l5 h=>nj dL J J J J mn J J (D J) (D J) q_l5 fun l6 c3=>?_;refine aR 0 qC J<|dI<|gi sE J (vr _ _ _) J (D J) (Fb (DE (D J)))<|bC<|aw J<|bl J<|bV h J (fun h=>?_) (fun h=>?_)
    ·refine ai<|aR 0 qC J<|X (iJ sE se (.head _) (.tail _ (.head _)) J (D J))<|X (fK mn (mY (D J)))<|X (ec (D J) hI)<|aR 1 jP J<|dI<|be bH m3 J<|aJ<|eN K hN J<|aZ<|aF<|aZ<|aF ?_;exact aY (aM (ih (i+1) (al.mk n1.Op (i64.wrap ((l5.length:Int)-1)) n1.B n1.Table n1.A' n1.Left n1.c_ n1.v' n1.u' n1.D' n1.B' n1.J') ({l with i':=l5}:fx) l6 c3 ⟨ei K,h⟩) (aX J))
    ·refine ai<|aR 0 qC J<|X (iJ sE se (.head _) (.tail _ (.head _)) J (D J))<|X (fK mn (mY (D J)))<|X (ec (D J) hI)<|aR 2 kV J<|dI<|be bH m0 J<|aJ<|eN K hN J<|aZ<|aF<|aZ<|aF ?_;exact aY (aM (ih (i+1) (al.mk n1.Op n1.A (i64.wrap ((l5.length:Int)-1)) n1.Table n1.A' n1.Left n1.c_ n1.v' n1.u' n1.D' n1.B' n1.J') ({l with i':=l5}:fx) l6 c3 ⟨ei K,h⟩) (aX J))
   ·obtain⟨l_,h⟩:=h;refine gj l_ J<|aS<|ak<|O<|eE eh bH J (fh l_)<|aK J<|O<|X (cI (y:=(⟨1,0,0,0,⟨0,0,0,[]⟩⟩:bw)) fF R6 md (⟨_,_,_,_,_,J,zj,J,hI,J⟩))<|bD fF md J fun b4=>be fF aq J ?_;refine bC ?_;refine dP (aH:=fun e2=>nO (eT (cA tl) i n1 l tl1) p e2=some R) (Of:=fun e2=>[s aQ 89 b n1,s bG 160 b4 e2,s pq 93 b1 (rr l (aI l1 c l.i'.length)),lP aQ 89 l1 c l.i',s lR 89 b3 (rs p (aI l4 c2 p.D'.length)),lP bT 84 l4 c2 p.D']) (Gf:=fun e2=>[(2,Q (M b 0)),(6,Q (M b1 0)),(7,bI (i:Int)),(9,da aQ XM),(10,Q (M b3 0)),(13,Q (M b4 0)),(14,ek (oH) parts),(15,mR parts),(16,bI (i:Int)),(29,lk e),(30,mR e),(31,bI (i1:Int))]) (fun e2 h=>?_) (fun hx=>?_)
    ·skip;refine bR h fun r2 Y' h=>?_;refine rK 5 (ts:=[Q (M b3 9),tO bT l4 c2 p.D',tD bG e2,tD bT r2,ek (bT) ([r2])]) mixed J J J
      ⟨Dm 10 J J (pL 9 sM J J J),
      ⟨eS 41 0 J J (iJ Cf LO (.tail _ (.tail _ (.tail _ (.tail _ (.head _))))) (.tail _ (.tail _ (.tail _ (.tail _ (.tail _ (.head _)))))) J (D J)),
      ⟨Dm 13 J J (aA fF J J bm (.tail _ (.head _)) (D J)),
      ⟨eS 43 2 J J (cC afj (ZK _ _ Y') ⟨(D J),Wc,aV⟩),
      ⟨eS 44 3 J J (aT (r:=bT) (ys:=[r2]) (xs:=[.tmp 44]) uL hY J J J J J ⟨(D J),aV⟩),
      aV⟩⟩⟩⟩⟩ ?_
     refine mP<|bR h fun l7 q_l7 h=>nj hY J J J J uL J J (D J) (D J) q_l7 fun l8 c4=>aR 9 sM J<|mP<|gi Cf J (AG _ _ _) J (D J) (Fb (DE (D J)))<|aJ<|eN l_ hN1 J<|aZ<|aF<|ap<|ap<|cZ<|cZ<|cZ ?_;exact aY (aM (ih1 (i1+1) ({p with D':=l7}:al) l8 c4 ⟨ei l_,h⟩) (aX J))
    ·skip;refine aw J<|X (d8 (D J) hI)<|bV h J (fun h=>?_) (fun h=>?_)
     ·refine ai<|Z J<|X (ec (D J) hI)<|X (cI (y:=(⟨2,0,0,(i64.wrap (e1-1)),⟨0,0,0,[]⟩⟩:bw)) fF R6 md (⟨_,_,_,_,_,J,zj,J,hI,⟨_,_,_,_,_,J,CW,J,(D J),J⟩⟩))<|be fF aq J<|aJ<|ev<|ev<|ev<|ev<|cZ<|ev ?_;exact bE (hx (⟨2,0,0,(i64.wrap (e1-1)),⟨0,0,0,[]⟩⟩:bw) h) (aX J)
     ·refine aW<|ev<|ev<|ev<|ev<|cZ<|ev ?_;exact bE (hx (⟨1,0,0,0,⟨0,0,0,[]⟩⟩:bw) h) (aX J)
def YI n g'{R}(h:qd n g'=some R):jI bt 95 [tD aQ n,lk g'] false cj 3 R:=by
 refine jI.of func95 J J J fun w0 S0=>O<|eH J<|cn false cj 3<|X (cg vk)<|bC<|O<|iU (r:=cj) (ys:=y6) (xs:=[]) eh bH J J J J J trivial J fun l c=>Z J<|bR h fun out q_out h=>bA bH J J J J eh J J (D J) (D J) q_out fun l1 c1=>aK J<|aN<|aU iS d6 qT J<|bX ny J<|X (cB hI) ?_;refine bC<|ak<|bJ (k:=12) J fun hN=>bK<|fT<|oG ?_;refine aM (uE (aH:=fun ls i n'=>(n.u'.drop i=ls)/\mL n ls i n'=some R) (Of:=fun _ i n'=>[d5 cj 3 l1 c1 n']) (Gf:=fun _ i n'=>[(2,da aQ n),(5,oI l1 c1 n'),(12,ek (eO) n.u'),(13,mR n.u'),(14,bI (i:Int))]) (fun i n' h=>?_) (fun e tl ih i n' h=>?_) n.u' 0 out ⟨J,h⟩) (aX J)
 ·obtain⟨K,h⟩:=h;exact gk K J<|an<|aw J<|ba J<|so h▸gu J J
 ·obtain⟨K,h⟩:=h;refine gj K J<|aS<|ak<|aw J<|eE ny jt J (fh K)<|bD jt wJ J fun b=>dM J<|be jt aq J<|bj 7 J<|bC<|aS ?_;refine ai<|aU kz je bH J<|bl J<|bV h J (fun h=>?_) (fun h=>?_)
  ·refine ai<|Z J<|aU kp fv cV J<|bX eh J<|Z J<|X (cU (D J) (D J))<|bR h fun e1 Z' h=>X (fP eh bH (.head _) (D J) (D J) Z')<|bR h fun st W_ h=>B2 bH J aq J Z' (so W_) (D J) hI<|tU (va (so W_)) 5 J<|tU (va (so W_)) 22 J<|aJ<|eN K hN J ?_;exact aY (aM (ih (i+1) st ⟨ei K,h⟩) (aX J))
  ·refine aW<|eN K hN J ?_;exact aY (aM (ih (i+1) n' ⟨ei K,h⟩) (aX J))
def abE n a1{R}(h:re n a1=some R):dk bt 96 [tD aQ n,lk a1] (tT [lk R.1,fU R.2]):=by
 refine dX func96 J<|O<|eH J<|fb cj<|bo<|bC<|aN<|aU kp fv cV J<|bX eh J<|X (d8 (D J) hI)<|Z J<|aB J (bu iS d6 J J)<|aB J (bp qT J J)<|aB J (hM ny J)<|aB J (fun Y=>d8 (bg J Y) hI)<|dG J<|Z J<|aB J (bu kp fv J J)<|aB J (bp cV J J) ?_;refine aB J (hM eh J)<|aB J (bu iS d6 J J)<|aB J (bp qT J J)<|aB J (hM ny J)<|aB J (fun Y=>cU (bg J Y) (bg J Y))<|aB J (ca J)<|aB J (hM eh J)<|aB J (fun Y=>dc (bg J Y) (bg J Y))<|dG J<|Z J<|aB J (ca J)<|aB J (hM eh J)<|aB J (iq J)<|dG J<|bV h J (fun h=>?_) (fun h=>?_)
 ·exact O<|fb cj<|bo<|bF<|ae<|so h▸cM J J J
 ·refine fy<|O<|cn false cj 3<|X (cg vk)<|bC<|aN<|aU kp fv cV J<|bX eh J<|X (cB hI)<|bC<|ak<|bJ (k:=40) J fun hN=>bK ?_;refine aM (nX (aH:=fun ls i out l c=>(n.v'.drop i=ls)/\oP n a1 ls i out=some R) (Of:=fun _ i out l c=>[d5 cj 3 l c out]) (Gf:=fun _ i out l c=>[(1,lk a1),(2,da aQ n),(6,oI l c out),(40,lk n.v'),(41,mR n.v'),(42,bI (i:Int))]) (fun i out l c h=>?_) (fun e tl ih i out l c h=>?_) n.v' 0 y6 none 0 ⟨J,h⟩) (aX J)
  ·obtain⟨K,h⟩:=h;refine gk K J<|an<|aN<|aU iS d6 qT J<|bX ny J<|X (cB hI)<|bC<|ak<|bJ (k:=66) J fun hN1=>?_;refine bK ?_;refine aM (nX (aH:=fun ls1 i1 n' l1 c1=>(n.u'.drop i1=ls1)/\gC n a1 ls1 i1 n'=some R) (Of:=fun _ i1 n' l1 c1=>[d5 cj 3 l1 c1 n']) (Gf:=fun _ i1 n' l1 c1=>[(1,lk a1),(2,da aQ n),(6,oI l1 c1 n'),(66,ek (eO) n.u'),(67,mR n.u'),(68,bI (i1:Int))]) (fun i1 n' l1 c1 h=>?_) (fun e1 tl1 ih1 i1 n' l1 c1 h=>?_) n.u' 0 out l c ⟨J,h⟩) (aX J)
   ·obtain⟨l_,h⟩:=h;refine gk l_ J<|an<|aw J<|dM J<|bo<|bF<|dE<|bS 6 J<|bS 107 J ?_;exact bS 4 J<|fa 4 J<|aF<|so h▸cM J J J
   ·obtain⟨l_,h⟩:=h;refine gj l_ J<|aS<|ak<|aw J<|eE ny jt J (fh l_)<|bD jt wJ J fun b=>dM J<|be jt aq J<|bj 10 J<|bC<|aS ?_;refine ai<|Z J<|aU kp fv cV J<|bX eh J<|Z J<|X (cU (D J) (D J))<|bR h fun e2 I_ h=>eE eh bH J I_<|aK J<|aN<|qX sm oX J<|aU ia fD pO J<|bX mo J<|X (d8 (D J) hI)<|bV h J (fun h=>?_) (fun h=>?_)
    ·exact O<|fb cj<|bo<|bF<|ae<|cF<|ae<|cF<|aF<|so h▸cM J J J
    ·refine fy<|aN<|aU kz je bH J<|bC<|ak ?_;refine dP (aH:=fun x=>rb (gC n a1 tl1) i1 e1 n' e2 x=some R) (Of:=fun x=>[d5 cj 3 l1 c1 n']) (Gf:=fun x=>[(1,lk a1),(2,da aQ n),(6,oI l1 c1 n'),(11,bI e2),(66,ek (eO) n.u'),(67,mR n.u'),(68,bI (i1:Int)),(87,bI e1.Tag),(88,fU x)]) (fun x h=>?_) (fun hx=>?_)
     ·skip;refine fz h J (fun h=>?_) (fun h=>?_)
      ·refine aw J<|mV J<|bV h J (fun h=>?_) (fun h=>?_)
       ·exact O<|fb cj<|bo<|bF<|cF<|cF<|ae<|cF<|aF<|so h▸cM J J J
       ·refine aW<|ah<|an<|ai<|Z J<|Z J<|X (aT (r:=cj) (ys:=[e2]) (xs:=[.tmp 103]) eh bH J J J J J ⟨(D J),aV⟩)<|bR h fun V' m_ h=>bA bH J J J J eh J J (D J) (D J) m_ fun l2 c2=>dM J<|aJ<|eN l_ hN1 J ?_;exact aY (aM (ih1 (i1+1) V' l2 c2 ⟨ei l_,h⟩) (aX J))
      ·refine O<|bl J<|aK J<|fz h J (fun h=>?_) (fun h=>?_)
       ·refine aN<|Z J<|mV J<|bV h J (fun h=>?_) (fun h=>?_)
        ·exact O<|fb cj<|bo<|bF<|ae<|cF<|cF<|ae<|cF<|aF<|so h▸cM J J J
        ·refine fy<|ai<|bP<|aJ<|ah<|an<|ai<|Z J<|Z J<|X (aT (r:=cj) (ys:=[2]) (xs:=[.tmp 103]) eh bH J J J J J ⟨(D J),aV⟩)<|bR h fun y_ L_ h=>bA bH J J J J eh J J (D J) (D J) L_ fun l3 c3=>dM J<|aJ<|eN l_ hN1 J ?_;exact aY (aM (ih1 (i1+1) y_ l3 c3 ⟨ei l_,h⟩) (aX J))
       ·refine dP (aH:=fun x1=>ra (gC n a1 tl1) i1 n' e2 x1=some R) (Of:=fun x1=>[d5 cj 3 l1 c1 n']) (Gf:=fun x1=>[(1,lk a1),(2,da aQ n),(6,oI l1 c1 n'),(11,bI e2),(66,ek (eO) n.u'),(67,mR n.u'),(68,bI (i1:Int)),(97,fU x1)]) (fun x1 h=>?_) (fun K1=>?_)
        ·skip;refine fz h J (fun h=>?_) (fun h=>?_)
         ·refine aw J<|bl J<|bV h J (fun h=>?_) (fun h=>?_)
          ·exact O<|fb cj<|bo<|bF<|cF<|cF<|ae<|cF<|aF<|so h▸cM J J J
          ·refine aW<|ah<|an<|ai<|Z J<|Z J<|X (aT (r:=cj) (ys:=[e2]) (xs:=[.tmp 103]) eh bH J J J J J ⟨(D J),aV⟩)<|bR h fun A_ R_ h=>bA bH J J J J eh J J (D J) (D J) R_ fun l4 c4=>dM J<|aJ<|eN l_ hN1 J ?_;exact aY (aM (ih1 (i1+1) A_ l4 c4 ⟨ei l_,h⟩) (aX J))
         ·exact O<|fb cj<|bo<|bF<|cF<|cF<|ae<|cF<|aF<|so h▸cM J J J
        ·skip;refine O<|bl J<|aK J<|fz h J (fun h=>?_) (fun h=>?_)
         ·refine aW ?_;exact bE (K1 (e1.Tag==4) h) (aX J)
         ·refine ai<|bl J<|dM J<|aJ ?_;exact bE (K1 (e1.Tag==5) h) (aX J)
     ·skip;refine O<|bl J<|aK J<|fz h J (fun h=>?_) (fun h=>?_)
      ·refine aW ?_;exact bE (hx (e1.Tag==1) h) (aX J)
      ·refine ai<|bl J<|dM J<|aJ ?_;exact bE (hx (e1.Tag==2) h) (aX J)
  ·obtain⟨K,h⟩:=h;refine gj K J<|aS<|ak<|aw J<|eE eh bH J (fh K)<|dM J<|aK J<|aN ?_;refine Z J<|Z J<|X (dc (D J) (D J))<|Z J<|bR h fun t u_ h=>aB J (ca J)<|aB J (ca J) ?_;obtain⟨e3,h_,v_⟩:=og u_;have q_e3g:=fun V=>(h_ V).1;refine aB J (fun Y=>dV eh bH J (bg J Y) (bg J Y) (q_e3g Y))<|aB J (bp bH J J)<|aB J (iq J)<|X (iQ (D J) (fun V=>(bg J (sL V))) (fun V=>(h_ V).2) v_)<|bV h J (fun h=>?_) (fun h=>?_)
   ·exact O<|fb cj<|bo<|bF<|ae<|cF<|ae<|cF<|aF<|so h▸cM J J J
   ·refine fy<|ai<|Z J<|Z J<|Z J<|bR h fun e4 O_ h=>eE eh bH J O_<|X (aT (r:=cj) (ys:=[e4]) (xs:=[.tmp 61]) eh bH J J J J J ⟨(D J),aV⟩)<|bR h fun D_ X_ h=>bA bH J J J J eh J J (D J) (D J) X_ fun l5 c5=>dM J<|aJ<|eN K hN J ?_;exact aY (aM (ih (i+1) D_ l5 c5 ⟨ei K,h⟩) (aX J))
def ab3 l{R}(h:rg l=some R):dk bt 42 [ek (aQ) l] (tT [ek (oH) R.1,bI R.2]):=by
 refine dX func42 J<|O<|fb (oH)<|bP<|bC<|aN<|Z J<|bX mn J<|X (eC (D J) hI)<|Z J<|aB J (ca J)<|aB J (hM mn J)<|aB J (fun Y=>d8 (bg J Y) hI)<|dG J<|bV h J (fun h=>?_) (fun h=>?_)
 ·exact O<|fb (oH)<|ea<|ae<|so h▸cM J J J
 ·refine fy<|O<|cn false oH 69<|X (cg vk)<|bC<|aN<|Z J<|bX mn J<|X (cB hI)<|bC<|ak<|bJ (k:=20) J fun hN=>bK ?_;refine aM (nX (aH:=fun ls i out l1 c=>(l.drop i=ls)/\dC l ls i out=some R) (Of:=fun _ i out l1 c=>[d5 oH 69 l1 c out]) (Gf:=fun _ i out l1 c=>[(0,ek (aQ) l),(4,oI l1 c out),(20,ek (aQ) l),(21,mR l),(22,bI (i:Int))]) (fun i out l1 c h=>?_) (fun e tl ih i out l1 c h=>?_) l 0 aaV none 0 ⟨J,h⟩) (aX J)
  ·obtain⟨K,h⟩:=h;refine gk K J<|an<|aN<|Z J<|Z J<|bX mn J<|X (ec (D J) hI)<|ej h WX (Wn _ _) (co J) fun r h=>Z J<|bX mn J ?_;refine X (dc (D J) (D J))<|bV h J (fun h=>?_) (fun h=>?_)
   ·exact aw J<|bX mn J<|X (ec (D J) hI)<|fb (oH)<|ba J<|ae<|aF<|so h▸cM J J J
   ·exact fy<|aw J<|dM J<|ea<|dE<|bS 4 J<|bS 151 J<|bS 2 J<|fa 2 J<|aF<|so h▸cM J J J
  ·obtain⟨K,h⟩:=h;refine gj K J<|aS<|ak<|aw J<|eE mn dL J (fh K)<|bD dL jd J fun b=>dM J<|be dL aq J<|bj 6 J<|bC<|aS ?_;refine ai<|Z J<|Z J<|ej h WX (Wn _ _) (co J) fun r1 h=>X (d8 (D J) hI)<|Z J<|bR h fun t u_ h=>ac J (fun Y=>CM dL J J) ?_;obtain⟨r2,h_,v_⟩:=og u_;have Q_:=fun V=>(h_ V).1;refine ac J (fun Y=>cC af4 (abG _ (Q_ Y)) ⟨(bg J Y),aV⟩)<|X (cw (D J) (fun V=>(bg J V)) (fun V=>(h_ V).2) v_)<|aK J<|O<|fb cj<|bC ?_;refine u7 (aH:=fun ok k=>ez l (dC l tl) i e out ok k=some R) (Of:=fun ok k=>[d5 oH 69 l1 c out]) (Gf:=fun ok k=>[(0,ek (aQ) l),(4,oI l1 c out),(5,bI (i:Int)),(6,da aQ e),(7,fU ok),(8,lk k),(20,ek (aQ) l),(21,mR l),(22,bI (i:Int))]) (fun ok k h=>?_) (fun hx=>?_)
   ·skip;refine O<|aU gq db bH J<|bl J<|Z J<|aB J (bu gq db J J)<|aB J (bp bH J J)<|aB J (iq J)<|dG J<|aK J<|aN<|Z J<|X (fq (D J))<|Z J<|aB J (ca J)<|aB J (ov J)<|d7 J J J J (fun Y=>ki J)<|d7 J J J J (fun Y=>ki J)<|d7 J J J J (fun Y=>fK mn (bg J Y)) ?_;refine d7 J J J J (fun Y=>ec (bg J Y) hI)<|d7 J J J J (fun Y=>dc (bg J Y) (bg J Y))<|aB J (fun Y=>j3 (bg J Y) (fun V=>(bg J (ub Y V))))<|dG J<|bV h J (fun h=>?_) (fun h=>?_)
    ·exact aw J<|fb (oH)<|ba J<|ae<|cF<|ae<|cF<|aF<|so h▸cM J J J
    ·refine fy<|ai<|Z J<|Z J<|X (aT (r:=yj) (ys:=[k]) (xs:=[.tmp 136]) wF cV J J J J J ⟨(D J),aV⟩)<|bR h fun n' X' h=>bA cV J J J J wF J J (D J) (D J) X' fun l2 c1=>dM J<|aJ<|eN K hN J ?_;exact aY (aM (ih (i+1) n' l2 c1 ⟨ei K,h⟩) (aX J))
   ·skip;refine aw J<|bV h J (fun h=>?_) (fun h=>?_)
    ·refine O<|cn false oH 69<|X (cg vk)<|bC ?_;refine y4 (aH:=fun parts l3 c2=>rf l (dC l tl) i e out parts=some R) (Of:=fun parts l3 c2=>[d5 oH 69 l1 c out,d5 oH 69 l3 c2 parts]) (Gf:=fun parts l3 c2=>[(0,ek (aQ) l),(4,oI l1 c out),(5,bI (i:Int)),(6,da aQ e),(9,oI l3 c2 parts),(20,ek (aQ) l),(21,mR l),(22,bI (i:Int))]) (fun parts l3 c2 h=>?_) (fun K1=>?_)
     ·skip;refine y4 (aH:=fun parts1 l4 c3=>fJ l (dC l tl) i e out parts1=some R) (Of:=fun parts1 l4 c3=>[d5 oH 69 l1 c out,d5 oH 69 l4 c3 parts1]) (Gf:=fun parts1 l4 c3=>[(0,ek (aQ) l),(4,oI l1 c out),(5,bI (i:Int)),(6,da aQ e),(9,oI l4 c3 parts1),(20,ek (aQ) l),(21,mR l),(22,bI (i:Int))]) (fun parts1 l4 c3 h=>?_) (fun K2=>?_)
      ·skip;refine O<|aU gq db bH J<|bC<|ak<|O<|bl J<|aK J<|fz h J (fun h=>?_) (fun h=>?_)
       ·refine ai<|eb dL J<|ej h af3 (abF _) (co J) fun r3 h=>Z J<|dJ J J<|dJ J J<|dM J<|dM J<|aJ<|ah<|ap<|aF ?_;exact bE (hx r3.2 r3.1 h) (aX J)
       ·refine O<|bl J<|aK J<|fz h J (fun h=>?_) (fun h=>?_)
        ·refine O<|eb dL J<|bD dL jd J fun b1=>be dL aq J<|bC<|O<|aR 0 gq J<|eD bH J wT J (D J) hI<|bC<|O<|X (aA (x:=(al.mk 4 e.A e.B e.Table e.A' e.Left e.c_ e.v' e.u' e.D' e.B' e.J')) dL J J bm (.head _) (D J))<|Z J<|cd<|ed<|cR 9 J<|cR 79 J<|ej h acQ (Qx _ _) ⟨(D J),(mY (D J)),aV⟩ fun r4 h=>Z J ?_;refine dJ J J<|dJ J J<|dM J<|aK J<|aw J<|bV h J (fun h=>?_) (fun h=>?_)
         ·refine ai<|eb dL J<|Z J<|lp h af2 (YI _ _) (co J) fun r5 h l5 c4=>dM J<|aJ<|ah<|dE<|bS 8 J<|bS 86 J<|fa 8 J<|aF<|aF<|aF ?_;exact bE (hx r4.2 r5 h) (aX J)
         ·refine aW<|ah<|aF<|aF ?_;exact bE (hx r4.2 r4.1 h) (aX J)
        ·refine O<|bl J<|aK J<|fz h J (fun h=>?_) (fun h=>?_)
         ·refine aS<|bR h fun e1 Z' h=>bR h fun r6 U_ h=>?_;refine ga (ts:=[_,_,_,_,_,_,_,_,_,_]) mixed J J
           ⟨Dm 6 J J (CM dL J J),
           ⟨fc J J,
           ⟨eS 91 1 J J (fP wF cV (.tail _ (.head _)) (D J) hI Z'),
           ⟨eS 92 2 J J (kJ (r:=yj) (i:=0) (foff:=0) cV J J bm J (.tail _ (.head _)) Z' (D J)),
           ⟨fR 90 0 93 3 J J J (cC af1 (abE _ _ U_) ⟨(D J),(D J),aV⟩),
           ⟨eS 94 4 J J (ki J),
           ⟨eS 89 5 J J (GW J J),
           ⟨eS 89 5 J J (GW J J),
           ⟨eS 95 6 J J (CO J),
           ⟨eS 96 7 J J (CO J),
           aV⟩⟩⟩⟩⟩⟩⟩⟩⟩⟩ ?_
          refine an<|ai<|Z J<|Z J<|bR h fun t1 E_ h=>ac J (ca J)<|ac J (bu jP gH J J)<|ac J (bp bH J J) ?_;obtain⟨e2,r_,F_⟩:=og E_;have q_e2g:=fun V=>(r_ V).1;refine ac J (fun Y=>dV mn dL J (bg J Y) (bg J Y) (q_e2g Y))<|ac J (fun Y=>eg gq J db J (bg J Y))<|ac J (bp bH J J)<|ac J (iq J)<|X (cw (D J) (fun V=>(bg J V)) (fun V=>(r_ V).2) F_)<|dM J<|aJ<|ah<|ap<|aF ?_;exact bE (hx t1 r6.1 h) (aX J)
         ·refine O<|bl J<|aK J<|fz h J (fun h=>?_) (fun h=>?_)
          ·refine ai<|eb dL J<|ej h acQ (Qx _ _) ⟨(D J),Wc,aV⟩ fun r7 h=>Z J<|dJ J J<|dJ J J<|dM J<|dM J<|aJ<|ah<|ap<|aF ?_;exact bE (hx r7.2 r7.1 h) (aX J)
          ·refine ai<|eb dL J<|Z J<|bf<|ed<|cR 9 J<|cR 62 J<|ej h acQ (Qx _ _) ⟨(D J),(mY (D J)),aV⟩ fun r8 h=>Z J<|dJ J J<|dJ J J<|dM J<|dM J<|aJ<|ah<|aF ?_;exact bE (hx r8.2 r8.1 h) (aX J)
      ·skip;refine O<|aU kV iR bH J<|X (d9 (D J) hI)<|bV h J (fun h=>?_) (fun h=>?_)
       ·refine ai<|Z J<|Z J<|aU kV iR bH J<|bR h fun e3 H_ h=>X (fP wF cV (.head _) (D J) (D J) H_)<|X (kJ (r:=yj) (i:=e.B) (foff:=0) cV J J bm J (.head _) H_ (D J))<|X (aT (r:=yj) (ys:=[e3]) (xs:=[.tmp 55]) wF cV J J J J J ⟨(D J),aV⟩)<|bf<|bR h fun parts2 q_parts2 h=>bA cV J J J J wF J J (D J) (D J) q_parts2 fun l6 c5=>dM J<|aJ<|ap ?_;exact bE (K2 parts2 l6 c5 h) (aX J)
       ·refine aW ?_;exact bE (K2 parts l3 c2 h) (aX J)
     ·skip;refine O<|aU jP gH bH J<|X (d9 (D J) hI)<|bV h J (fun h=>?_) (fun h=>?_)
      ·refine ai<|Z J<|Z J<|aU jP gH bH J<|bR h fun e4 O_ h=>X (fP wF cV (.tail _ (.head _)) (D J) (D J) O_)<|X (kJ (r:=yj) (i:=e.A) (foff:=0) cV J J bm J (.tail _ (.head _)) O_ (D J))<|X (aT (r:=yj) (ys:=[e4]) (xs:=[.tmp 44]) wF cV J J J J J ⟨(D J),aV⟩)<|bR h fun parts3 q_parts3 h=>bA cV J J J J wF J J (D J) (D J) q_parts3 fun l7 c6=>dM J<|aJ<|ap ?_;exact bE (K1 parts3 l7 c6 h) (aX J)
      ·refine aW<|ap ?_;exact bE (K1 aaV none 0 h) (aX J)
    ·refine aW ?_;exact bE (hx t ([]) h) (aX J)
