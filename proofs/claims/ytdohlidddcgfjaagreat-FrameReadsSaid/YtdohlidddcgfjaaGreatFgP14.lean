import Derived.Test.YtdohlidddcgfjaaGreatFgT
import Derived.Test.YtdohlidddcgfjaaGreatFgP13
set_option linter.all false
namespace Go.Proofs.YtdohlidddcgfjaaGreat
open Go IntKind Tryz
set_option maxRecDepth 100000
def Sl op{R}(h:vw op=some R):dk bt 131 [bI op] (bI R):=by
 refine dX func131 J<|O<|bP<|bC<|aN<|Z J<|bC<|ak<|O<|bl J<|aK J<|fz h J (fun h=>?_) (fun h=>?_)
 ·exact O<|ea<|cF<|so h▸aC J J
 ·refine dP (aH:=fun x=>uk op x=some R) (Of:=fun x=>[]) (Gf:=fun x=>[(0,bI op),(6,fU x)]) (fun x h=>?_) (fun hx=>?_)
  ·skip;refine fz h J (fun h=>?_) (fun h=>?_)
   ·exact O<|ea<|cF<|so h▸aC J J
   ·exact aW<|ah<|an<|aw J<|ej h aaL (Sj _) (co J) fun r h=>ba J<|so h▸aC J J
  ·skip;refine O<|bl J<|aK J<|fz h J (fun h=>?_) (fun h=>?_)
   ·refine aW ?_;exact bE (hx (op==10) h) (aX J)
   ·refine ai<|bl J<|dM J<|aJ ?_;exact bE (hx (op==11) h) (aX J)
def YJ: ∀(fu:Nat) (l:(List al)) (M':Int) {R:Int} (h:iv fu l M'=some R),dk bt 91 [ek (aQ) l,bI M'] (bI R):=by
 intro fu
 induction fu with
 |zero=>intro l M' R h;exact(nn h).elim
 |succ fu ihR=>
  intro l M' R h;refine dX func91 J<|O<|bP<|bC<|aN<|Z J<|X (eC (D J) hI)<|Z J<|aB J (ca J)<|aB J (ca J)<|aB J (hM mn J)<|aB J (fun Y=>d9 (bg J Y) (bg J Y))<|dG J<|bV h J (fun h=>?_) (fun h=>?_)
  ·exact O<|ea<|ae<|so h▸aC J J
  ·refine fy<|aw J<|Z J<|bR h fun e N_ h=>eE mn dL J N_<|bD dL jd J fun b=>be dL aq J<|bj 5 J<|bC<|aN<|aU gq db bH J<|ej h aaQ (Sl _) (co J) fun r h=>bC<|ak ?_;refine O<|bl J<|aK J<|fz h J (fun h=>?_) (fun h=>?_)
   ·refine O<|aU jP gH bH J<|bl J<|Z J<|ac J (bu kV iR J J)<|ac J (bp bH J J)<|ac J (iq J)<|cm J<|bV h J (fun h=>?_) (fun h=>?_)
    ·exact O<|ea<|cF<|so h▸aC J J
    ·exact aW<|ah<|an<|O<|ea<|so h▸aC J J
   ·refine O<|bl J<|aK J<|fz h J (fun h=>?_) (fun h=>?_)
    ·refine aw J<|Z J<|X (ec (D J) hI)<|ej h WX (ihR _ _) (co J) fun r1 h=>aK J<|O<|aU jP gH bH J<|Z J<|X (ec (D J) hI)<|X (dW (D J) (D J))<|Z J<|ac J (bu kV iR J J)<|ac J (bp bH J J)<|ac J (iq J)<|cm J<|Z J<|ac J (ca J) ?_;refine ac J (fun Y=>d8 (bg J Y) hI)<|cm J<|bV h J (fun h=>?_) (fun h=>?_)
     ·exact aw J<|X (cU (D J) hI)<|ba J<|cF<|so h▸aC J J
     ·exact aW<|ah<|an<|O<|ea<|so h▸aC J J
    ·refine O<|bl J<|aK J<|fz h J (fun h=>?_) (fun h=>?_)
     ·refine aw J<|Z J<|X (ec (D J) hI)<|ej h WX (ihR _ _) (co J) fun r2 h=>aK J<|aN<|Z J<|bl J<|Z J<|aB J (bu kV iR J J)<|aB J (bp bH J J)<|aB J (ca J)<|aB J (fun Y=>ec (bg J Y) hI)<|aB J (fun Y=>dc (bg J Y) (bg J Y))<|dG J<|Z J<|aB J (bu jP gH J J) ?_;refine aB J (bp bH J J)<|aB J (ca J)<|aB J (fun Y=>ec (bg J Y) hI)<|aB J (ca J)<|aB J (fun Y=>ec (bg J Y) (bg J Y))<|aB J (fun Y=>dc (bg J Y) (bg J Y))<|dG J<|bV h J (fun h=>?_) (fun h=>?_)
      ·exact O<|ea<|ae<|cF<|so h▸aC J J
      ·refine fy<|aw J<|aU jP gH bH J<|ej h WX (ihR _ _) (co J) fun r3 h=>aK J<|aw J<|X (d8 (D J) hI)<|bV h J (fun h=>?_) (fun h=>?_)
       ·exact aw J<|Z J<|X (cU (D J) (D J))<|X (cU (D J) hI)<|ba J<|cF<|so h▸aC J J
       ·exact aW<|ah<|an<|O<|ea<|so h▸aC J J
     ·exact aW<|ah<|an<|O<|ea<|so h▸aC J J
def Wn l M'{R}(h:wW l M'=some R):dk bt 91 [ek (aQ) l,bI M'] (bI R):=YJ de l M' h
def GJ n{R}(h:qg n=some R):dk bt 132 [tD aQ n] (fU R):=by
 refine dX func132 J<|O<|eH J<|bo<|bC<|aN<|aU gq db bH J<|mV J<|Z J<|ac J (bu rD jw J J)<|ac J (bp bH J J)<|ac J (ud J)<|ac J (ov J)<|cO J J J J (fun Y=>sP kU fE J J)<|cO J J J J (fun Y=>fC cV J J (bg J Y))<|cO J J J J (fun Y=>fK eh (bg J Y))<|cO J J J J (fun Y=>d8 (bg J Y) hI)<|ac J (fun Y=>ke (bg J Y) (fun V=>(bg J (ub Y (sL V)))))<|cm J ?_;refine bV h J (fun h=>?_) (fun h=>?_)
 ·exact O<|bo<|bF<|ae<|so h▸aC J J
 ·refine fy<|aN<|aU gq db bH J<|mV J<|Z J<|ac J (bu zL tt J J)<|ac J (bp ua J J)<|cm J<|Z J<|aB J (bu gq db J J)<|aB J (bp bH J J)<|aB J (ud J)<|aB J (ov J)<|d7 J J J J (fun Y=>sP gq db J J)<|d7 J J J J (fun Y=>fC bH J J (bg J Y))<|d7 J J J J (fun Y=>dc (bg J Y) hI)<|aB J (fun Y=>j3 (bg J Y) (fun V=>(bg J (ub Y V))))<|aB J (ov J)<|d7 J J J J (fun Y=>sP sN lX J J)<|d7 J J J J (fun Y=>eg ia J fD J (bg J Y)) ?_;refine d7 J J J J (fun Y=>fC pO J J (bg J Y))<|d7 J J J J (fun Y=>fK mo (bg J Y))<|d7 J J J J (fun Y=>d8 (bg J Y) hI)<|aB J (fun Y=>j3 (bg J Y) (fun V=>(bg J (ub Y V))))<|dG J<|bV h J (fun h=>?_) (fun h=>?_)
  ·exact O<|bo<|bF<|ae<|so h▸aC J J
  ·refine fy<|aN<|aU gq db bH J<|mV J<|Z J<|ac J (bu kp fv J J)<|ac J (bp cV J J)<|ac J (hM eh J)<|ac J (fun Y=>d8 (bg J Y) hI)<|ac J (ov J)<|cO J J J J (fun Y=>sP iS d6 J J)<|cO J J J J (fun Y=>fC qT J J (bg J Y))<|cO J J J J (fun Y=>fK ny (bg J Y))<|cO J J J J (fun Y=>d8 (bg J Y) hI)<|ac J (fun Y=>ke (bg J Y) (fun V=>(bg J (ub Y (sL V)))))<|cm J<|Z J<|aB J (bu gq db J J)<|aB J (bp bH J J)<|aB J (ud J) ?_;refine aB J (ov J)<|d7 J J J J (fun Y=>sP sM lW J J)<|d7 J J J J (fun Y=>fC Cf J J (bg J Y))<|d7 J J J J (fun Y=>fK uL (bg J Y))<|d7 J J J J (fun Y=>d8 (bg J Y) hI)<|aB J (fun Y=>j3 (bg J Y) (fun V=>(bg J (ub Y V))))<|dG J<|bV h J (fun h=>?_) (fun h=>?_)
   ·exact O<|bo<|bF<|ae<|so h▸aC J J
   ·exact fy<|O<|aU gq db bH J<|bl J<|Z J<|aB J (bu ky gp J J)<|aB J (bp wM J J)<|aB J (hM uM J)<|aB J (iq J)<|aB J (ov J)<|d7 J J J J (fun Y=>sP sk lD J J)<|d7 J J J J (fun Y=>fC bH J J (bg J Y))<|d7 J J J J (fun Y=>dW (bg J Y) hI)<|aB J (fun Y=>j3 (bg J Y) (fun V=>(bg J (ub Y V))))<|dG J<|ba J<|so h▸aC J J
def abG n{R}(h:qe n=some R):dk bt 92 [tD aQ n] (fU R):=by
 refine dX func92 J<|O<|ss (D J) J fun b=>bo<|bC<|aN<|aR 0 gq J<|X (aA bH J J db (.head _) (D J))<|bC<|ak<|O<|bl J<|aK J<|fz h J (fun h=>?_) (fun h=>?_)
 ·exact ai<|aR 0 gq J<|eD bH J wT J (D J) hI<|aJ<|ah<|an<|O<|X (aA (x:=(al.mk 1 n.A n.B n.Table n.A' n.Left n.c_ n.v' n.u' n.D' n.B' n.J')) dL J J bm (.head _) (D J))<|ej h SD (GJ _) (co J) fun r h=>ba J<|aF<|so h▸aC J J
 ·refine dP (aH:=fun x=>px n x=some R) (Of:=fun x=>[s aQ 89 b n]) (Gf:=fun x=>[(1,Q (M b 0)),(8,fU x)]) (fun x h=>?_) (fun hx=>?_)
  ·skip;refine fz h J (fun h=>?_) (fun h=>?_)
   ·exact ai<|aR 0 gq J<|eD bH J wT J (D J) hI<|aJ<|ah<|an<|O<|X (aA (x:=(al.mk 4 n.A n.B n.Table n.A' n.Left n.c_ n.v' n.u' n.D' n.B' n.J')) dL J J bm (.head _) (D J))<|ej h SD (GJ _) (co J) fun r1 h=>ba J<|aF<|so h▸aC J J
   ·exact aW<|ah<|an<|O<|X (aA dL J J bm (.head _) (D J))<|ej h SD (GJ _) (co J) fun r2 h=>ba J<|aF<|so h▸aC J J
  ·skip;refine O<|bl J<|aK J<|fz h J (fun h=>?_) (fun h=>?_)
   ·refine aW ?_;exact bE (hx (n.Op==10) h) (aX J)
   ·refine ai<|bl J<|dM J<|aJ ?_;exact bE (hx (n.Op==11) h) (aX J)
def abF n{R}(h:xD n=some R):dk bt 93 [tD aQ n] (tT [lk R.1,fU R.2]):=by
 refine dX func93 J<|O<|eH J<|fb cj<|bo<|bC<|O<|aU rD jw bH J<|X (d9 (D J) hI)<|Z J<|ac J (bu rD jw J J)<|ac J (bp bH J J)<|ac J (fun Y=>eC (bg J Y) hI)<|cm J<|Z J<|ac J (bu kU fE J J)<|ac J (bp cV J J)<|ac J (hM eh J)<|ac J (fun Y=>d9 (bg J Y) hI)<|cm J ?_;refine Z J<|ac J (bu kU fE J J)<|ac J (bp cV J J)<|ac J (hM eh J)<|ac J (fun Y=>ft (bg J Y) hI)<|cm J<|aK J<|aN<|aU kU fE cV J<|bX eh J<|X (cB hI)<|bC<|ak<|bJ (k:=28) J fun hN=>bK ?_;refine aM (uE (aH:=fun ls i ok=>(n.A'.drop i=ls)/\oO n ls ok=some R) (Of:=fun _ i ok=>[]) (Gf:=fun _ i ok=>[(1,da aQ n),(4,fU ok),(28,lk n.A'),(29,mR n.A'),(30,bI (i:Int))]) (fun i ok h=>?_) (fun e tl ih i ok h=>?_) n.A' 0 ((((decide (0<=n.Table))&&(decide (n.Table<30)))&&(decide (1<=(n.A'.length:Int))))&&(decide ((n.A'.length:Int)<=16))) ⟨J,h⟩) (aX J)
 ·obtain⟨K,h⟩:=h;exact gk K J<|an<|O<|aU kU fE cV J<|Z J<|dM J<|ba J<|so h▸cM J J J
 ·obtain⟨K,h⟩:=h;refine gj K J<|aS<|ak<|O<|eE eh bH J (fh K)<|aK J<|ai<|Z J<|Z J<|ac J (ca J)<|ac J (fun Y=>d9 (bg J Y) hI) ?_;refine cm J<|Z J<|ac J (ca J)<|ac J (fun Y=>ft (bg J Y) hI)<|cm J<|dM J<|aJ<|eN K hN J ?_;exact aY (aM (ih (i+1) ((ok&&(decide (0<=e)))&&(decide (e<=4))) ⟨ei K,h⟩) (aX J))
def ZL g'{R}(h:zn g'=some R):dk bt 133 [lk g'] (fU R):=by
 refine dX func133 J<|O<|bo<|bC<|aN<|Z J<|bX eh J<|X (cB hI)<|bC<|ak<|bJ (k:=5) J fun hN=>bK ?_;refine aM (f0 (aH:=fun ls i=>(g'.drop i=ls)/\vc ls=some R) (Of:=fun _ i=>[]) (Gf:=fun _ i=>[(5,lk g'),(6,mR g'),(7,bI (i:Int))]) (fun i h=>?_) (fun e tl ih i h=>?_) g' 0 ⟨J,h⟩) (aX J)
 ·obtain⟨K,h⟩:=h;exact gk K J<|an<|O<|bo<|bF<|so h▸aC J J
 ·obtain⟨K,h⟩:=h;refine gj K J<|aS<|ak<|O<|eE eh bH J (fh K)<|aK J<|aw J<|bl J<|aJ ?_;refine an<|fz h J (fun h=>?_) (fun h=>?_)
  ·exact O<|bo<|bF<|cF<|ae<|cF<|so h▸aC J J
  ·refine aW<|eN K hN J ?_;exact aY (aM (ih (i+1) ⟨ei K,h⟩) (aX J))
def ZK root l{R}(h:zt root l=some R):dk bt 134 [tD bG root,ek (bT) l] (tD bT R):=by
 refine dX func134 J<|O<|ss (D J) J fun b=>bD hY s4 J fun b1=>bC<|O<|cn true bG 160<|bD (r:=jA) (x:=kf Pe (aI none 0 (UZ.length))) hY JC J fun b2=>bC<|O<|aR 1 qP J<|dI<|eD bH J th J (D J) hI<|aR 2 pG J<|eD bH J tg J (D J) hI<|bC<|aS<|aS ?_;refine ai<|Z J<|bX uL J<|X (cB hI)<|bC<|ak<|bJ (k:=13) J fun hN=>bK<|jk<|jk<|gB<|gB ?_;refine aM (Bu (aH:=fun ls i i_ out l1 c=>(l.drop i=ls)/\oc ls i i_ out=some R) (Of:=fun _ i i_ out l1 c=>[s bG 160 b i_,s bT 84 b1 Pe,s jA 84 b2 (kf out (aI l1 c out.i'.length)),lP bG 160 l1 c out.i']) (Gf:=fun _ i i_ out l1 c=>[(2,Q (M b 0)),(4,Q (M b1 0)),(5,Q (M b2 0)),(13,ek (bT) l),(14,mR l),(15,bI (i:Int))]) (fun i i_ out l1 c h=>?_) (fun e tl ih i i_ out l1 c h=>?_) l 0 (bw.mk root.Tag (-1) (-1) root.o_ root.Value) (⟨UZ⟩:bQ) none 0 ⟨J,h⟩) (aX J)
 ·obtain⟨K,h⟩:=h;refine gk K J<|an<|O<|aR 0 ia J<|X (iJ pO tR (.tail _ (.tail _ (.head _))) (.tail _ (.tail _ (.tail _ (.head _)))) J (D J))<|X (aA fF J J bm (.head _) (D J))<|X (aT (r:=bG) (ys:=[i_]) (xs:=[.tmp 68]) mo fF J J J J J ⟨(D J),aV⟩)<|dI<|bR h fun l2 q_l2 h=>nj fF J J J J mo J J (D J) (D J) q_l2 fun l3 c1=>aR 0 ia J<|dI ?_;exact gi pO J (sG _ _ _) J (D J) (Fb (DE (D J)))<|bC<|O<|bf<|X (gG (q:=bT) (y:=({out with i':=l2}:bQ)) hY J J J J (.tail _ (.head _)) (fun _ _ _ ho h=>xf (f7 ho (.head _)) h) (D J))<|dI<|be hY aq J<|bj 4 J<|bF<|aF<|aF<|aF<|so h▸IR J hY J J J
 ·obtain⟨K,h⟩:=h;refine gj K J<|aS<|ak<|aw J<|eE uL hY J (fh K)<|bD hY s4 J fun b3=>dM J<|be hY aq J<|bj 7 J<|bC<|aS ?_;refine ai<|aR 0 ia J<|X (iJ pO tR (.tail _ (.tail _ (.head _))) (.tail _ (.tail _ (.tail _ (.head _)))) J (D J))<|X (fK mo (mY (D J)))<|aK J<|aN<|aU ia fD pO J<|bX mo J<|X (cB hI)<|bC<|ak<|bJ (k:=24) J fun hN1=>bK ?_;refine aM (nX (aH:=fun ls1 i1 n' l4 c2=>(e.i'.drop i1=ls1)/\qh (oc tl) i i_ out ls1 n'=some R) (Of:=fun _ i1 n' l4 c2=>[s bG 160 b i_,s bT 84 b1 Pe,s jA 84 b2 (kf n' (aI l4 c2 n'.i'.length)),lP bG 160 l4 c2 n'.i']) (Gf:=fun _ i1 n' l4 c2=>[(2,Q (M b 0)),(4,Q (M b1 0)),(5,Q (M b2 0)),(6,bI (i:Int)),(8,mR out.i'),(13,ek (bT) l),(14,mR l),(15,bI (i:Int)),(24,ek (bG) e.i'),(25,mR e.i'),(26,bI (i1:Int))]) (fun i1 n' l4 c2 h=>?_) (fun e1 tl1 ih1 i1 n' l4 c2 h=>?_) e.i' 0 out l1 c ⟨J,h⟩) (aX J)
  ·obtain⟨l_,h⟩:=h;refine gk l_ J<|an<|aw J<|bl J<|bV h J (fun h=>?_) (fun h=>?_)
   ·refine ai<|aR 0 ia J<|X (iJ pO tR (.tail _ (.tail _ (.head _))) (.tail _ (.tail _ (.tail _ (.head _)))) J (D J))<|X (fK mo (mY (D J)))<|X (ec (D J) hI)<|aR 1 qP J<|be bH th J<|aJ<|eN K hN J ?_;exact aY (aM (ih (i+1) (bw.mk i_.Tag (i64.wrap ((n'.i'.length:Int)-1)) i_.R i_.o_ i_.Value) n' l4 c2 ⟨ei K,h⟩) (aX J))
   ·refine ai<|aR 0 ia J<|X (iJ pO tR (.tail _ (.tail _ (.head _))) (.tail _ (.tail _ (.tail _ (.head _)))) J (D J))<|X (fK mo (mY (D J)))<|X (ec (D J) hI)<|aR 2 pG J<|be bH tg J<|aJ<|eN K hN J ?_;exact aY (aM (ih (i+1) (bw.mk i_.Tag i_.L (i64.wrap ((n'.i'.length:Int)-1)) i_.o_ i_.Value) n' l4 c2 ⟨ei K,h⟩) (aX J))
  ·obtain⟨l_,h⟩:=h;refine gj l_ J<|aS<|ak<|O<|eE mo fF J (fh l_)<|bD fF md J fun b4=>be fF aq J<|bC ?_;refine dP (aH:=fun n=>yn out (qh (oc tl) i i_ out tl1) n' n=some R) (Of:=fun n=>[s bG 160 b i_,s bT 84 b1 Pe,s bG 160 b4 n,s jA 84 b2 (kf n' (aI l4 c2 n'.i'.length)),lP bG 160 l4 c2 n'.i']) (Gf:=fun n=>[(2,Q (M b 0)),(4,Q (M b1 0)),(5,Q (M b2 0)),(6,bI (i:Int)),(8,mR out.i'),(10,Q (M b4 0)),(13,ek (bT) l),(14,mR l),(15,bI (i:Int)),(24,ek (bG) e.i'),(25,mR e.i'),(26,bI (i1:Int))]) (fun n h=>?_) (fun hx=>?_)
   ·skip;refine dP (aH:=fun n1=>ym (qh (oc tl) i i_ out tl1) n' n1=some R) (Of:=fun n1=>[s bG 160 b i_,s bT 84 b1 Pe,s bG 160 b4 n1,s jA 84 b2 (kf n' (aI l4 c2 n'.i'.length)),lP bG 160 l4 c2 n'.i']) (Gf:=fun n1=>[(2,Q (M b 0)),(4,Q (M b1 0)),(5,Q (M b2 0)),(6,bI (i:Int)),(8,mR out.i'),(10,Q (M b4 0)),(13,ek (bT) l),(14,mR l),(15,bI (i:Int)),(24,ek (bG) e.i'),(25,mR e.i'),(26,bI (i1:Int))]) (fun n1 h=>?_) (fun K1=>?_)
    ·skip;refine ai<|aR 0 ia J<|X (iJ pO tR (.tail _ (.tail _ (.tail _ (.head _)))) (.tail _ (.tail _ (.tail _ (.tail _ (.head _))))) J (D J))<|X (aA fF J J bm (.tail _ (.tail _ (.head _))) (D J))<|X (aT (r:=bG) (ys:=[n1]) (xs:=[.tmp 48]) mo fF J J J J J ⟨(D J),aV⟩)<|eJ<|bR h fun l5 q_l5 h=>nj fF J J J J mo J J (D J) (D J) q_l5 fun l6 c3=>aR 0 ia J<|eJ<|gi pO J (sG _ _ _) J (D J) (Fb (DE (D J)))<|aJ<|eN l_ hN1 J<|cZ<|aF<|ap<|ap<|aZ<|aZ ?_;exact aY (aM (ih1 (i1+1) ({n' with i':=l5}:bQ) l6 c3 ⟨ei l_,h⟩) (aX J))
    ·skip;refine O<|aR 2 pG J<|X (aA bH J J pD (.tail _ (.tail _ (.head _))) (D J))<|X (d9 (D J) hI)<|bV h J (fun h=>?_) (fun h=>?_)
     ·refine ai<|aR 2 pG J<|X (aA bH J J pD (.tail _ (.tail _ (.head _))) (D J))<|Z J<|X (cU (D J) (D J))<|aR 2 pG J<|cd<|be bH tg J<|aJ<|cZ<|cZ<|aP<|cZ<|cZ ?_;exact bE (K1 (bw.mk n.Tag n.L (i64.wrap (n.R+(out.i'.length:Int))) n.o_ n.Value) h) (aX J)
     ·refine aW ?_;exact bE (K1 n h) (aX J)
   ·skip;refine O<|aR 1 qP J<|X (aA bH J J rC (.head _) (D J))<|X (d9 (D J) hI)<|bV h J (fun h=>?_) (fun h=>?_)
    ·refine ai<|aR 1 qP J<|X (aA bH J J rC (.head _) (D J))<|Z J<|X (cU (D J) (D J))<|aR 1 qP J<|be bH th J<|aJ<|cZ<|cZ<|aP<|cZ<|cZ ?_;exact bE (hx (bw.mk e1.Tag (i64.wrap (e1.L+(out.i'.length:Int))) e1.R e1.o_ e1.Value) h) (aX J)
    ·refine aW<|cZ<|cZ<|aP<|cZ<|cZ ?_;exact bE (hx e1 h) (aX J)
def WD: ∀(fu:Nat) (l:fx) (M':Int) {R:Int} (h:fg fu l M'=some R),dk bt 179 [tD m5 l,bI M'] (bI R):=by
 intro fu
 induction fu with
 |zero=>intro l M' R h;exact(nn h).elim
 |succ fu ihR=>
  intro l M' R h;refine dX func179 J<|O<|eH J<|bP<|bC<|aN<|Z J<|X (eC (D J) hI)<|Z J<|aB J (ca J)<|aB J (bu qC om J J)<|aB J (bp sE J J)<|aB J (hM mn J)<|aB J (fun Y=>d9 (bg J Y) (bg J Y))<|dG J<|bV h J (fun h=>?_) (fun h=>?_)
  ·exact O<|ea<|ae<|so h▸aC J J
  ·refine fy<|O<|aU qC om sE J<|Z J<|bR h fun e N_ h=>eE mn dL J N_<|bD dL jd J fun b=>be dL aq J<|bj 5 J<|bC<|aN<|aU gq db bH J<|ej h aaL (Sj _) (co J) fun r h=>bC ?_;refine ak<|O<|bl J<|aK J<|fz h J (fun h=>?_) (fun h=>?_)
   ·refine O<|aU jP gH bH J<|bl J<|Z J<|ac J (bu kV iR J J)<|ac J (bp bH J J)<|ac J (iq J)<|cm J<|bV h J (fun h=>?_) (fun h=>?_)
    ·exact O<|ea<|cF<|so h▸aC J J
    ·exact aW<|ah<|an<|O<|ea<|so h▸aC J J
   ·refine O<|bl J<|aK J<|fz h J (fun h=>?_) (fun h=>?_)
    ·refine O<|aU jP gH bH J<|Z J<|X (ec (D J) hI)<|X (dW (D J) (D J))<|Z J<|ac J (bu kV iR J J)<|ac J (bp bH J J)<|ac J (iq J)<|cm J<|bV h J (fun h=>?_) (fun h=>?_)
     ·refine O<|eb IY J<|aU jP gH bH J<|ej h SB (ihR _ _) (co J) fun r1 h=>aK J<|aw J<|X (d8 (D J) hI)<|bV h J (fun h=>?_) (fun h=>?_)
      ·exact aw J<|X (cU (D J) hI)<|ba J<|cF<|so h▸aC J J
      ·exact aW<|ah<|an<|O<|ea<|so h▸aC J J
     ·exact aW<|ah<|an<|O<|ea<|so h▸aC J J
    ·refine O<|bl J<|aK J<|fz h J (fun h=>?_) (fun h=>?_)
     ·refine O<|aU kV iR bH J<|Z J<|X (ec (D J) hI)<|X (dW (D J) (D J))<|bV h J (fun h=>?_) (fun h=>?_)
      ·refine O<|eb IY J<|aU kV iR bH J<|ej h SB (ihR _ _) (co J) fun r2 h=>aK J<|aw J<|X (d8 (D J) hI)<|Z J<|ac J (bu jP gH J J)<|ac J (bp bH J J)<|ac J (bu kV iR J J)<|ac J (bp bH J J)<|ac J (ca J)<|ac J (fun Y=>ec (bg J Y) (bg J Y))<|ac J (fun Y=>dW (bg J Y) (bg J Y))<|cm J<|aJ ?_;refine an<|fz h J (fun h=>?_) (fun h=>?_)
       ·refine O<|eb IY J<|aU jP gH bH J<|ej h SB (ihR _ _) (co J) fun r3 h=>aK J<|aw J<|X (d8 (D J) hI)<|bV h J (fun h=>?_) (fun h=>?_)
        ·exact aw J<|Z J<|X (cU (D J) (D J))<|X (cU (D J) hI)<|ba J<|cF<|so h▸aC J J
        ·exact aW<|ah<|an<|O<|ea<|so h▸aC J J
       ·exact aW<|ah<|an<|O<|ea<|so h▸aC J J
      ·exact aW<|ah<|an<|O<|ea<|so h▸aC J J
     ·exact aW<|ah<|an<|O<|ea<|so h▸aC J J
def Zu l M'{R}(h:C0 l M'=some R):dk bt 179 [tD m5 l,bI M'] (bI R):=WD de l M' h
