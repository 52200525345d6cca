import Derived.Test.YtdohlidddcgfjaaGreatFgT
import Derived.Test.YtdohlidddcgfjaaGreatFgP17
set_option linter.all false
namespace Go.Proofs.YtdohlidddcgfjaaGreat
open Go IntKind Tryz
set_option maxRecDepth 100000
def aci p{R}(h:wV p=some R):dk bt 21 [tD jL p] (fU R):=by
 refine dX func21 J<|O<|eH J<|bo<|bC<|aN<|aU qF kg ze J<|bX vL J<|X (eC (D J) hI)<|Z J<|aB J (bu qF kg J J)<|aB J (bp ze J J)<|aB J (hM vL J)<|aB J (fun Y=>d8 (bg J Y) hI)<|dG J<|bV h J (fun h=>?_) (fun h=>?_)
 ·exact O<|bo<|bF<|ae<|so h▸aC J J
 ·refine fy<|aN<|bP<|bC<|ak<|bK ?_;refine aM (B6 (aH:=fun n i=>oa p n i=some R) (Of:=fun i=>[]) (Gf:=fun i=>[(1,da jL p),(3,bI i)]) (fun i h=>nn h) (fun n ih i h=>?_) de 0 h) (aX J);refine cy<|aN<|Z J<|aU qF kg ze J<|bX vL J<|im J<|bV h J (fun h=>?_) (fun h=>?_)
  ·refine fy<|aS<|ak<|O<|aU qF kg ze J<|Z J<|bR h fun e N_ h=>eE vL nr J N_<|bD nr pm J fun b=>be nr aq J<|bj 4 J<|bC<|aN<|aU yv si bH J<|mV J<|Z J ?_;refine ac J (bu yv si J J)<|ac J (bp bH J J)<|ac J (ud J)<|cm J<|Z J<|aB J (bu yu sh J J)<|aB J (bp bH J J)<|aB J (fun Y=>eC (bg J Y) hI)<|dG J<|Z J<|aB J (bu yu sh J J)<|aB J (bp bH J J)<|aB J (fun Y=>d8 (bg J Y) hI)<|dG J<|Z J<|aB J (bu vQ oW J J)<|aB J (bp cV J J)<|aB J (hM eh J)<|aB J (fun Y=>d8 (bg J Y) hI)<|dG J<|bV h J (fun h=>?_) (fun h=>?_)
   ·exact O<|bo<|bF<|ae<|cF<|ae<|cF<|so h▸aC J J
   ·refine fy<|aN<|bP<|bC<|ak<|bK ?_;refine aM (B6 (aH:=fun n1 k=>qb (oa p n) i e n1 k=some R) (Of:=fun k=>[]) (Gf:=fun k=>[(1,da jL p),(3,bI i),(4,da cK e),(5,bI k)]) (fun k h=>nn h) (fun n1 ih1 k h=>?_) de 0 h) (aX J);refine cy<|aN<|Z J<|aU vQ oW cV J<|bX eh J<|im J<|bV h J (fun h=>?_) (fun h=>?_)
    ·refine fy<|aS<|ak<|O<|aU vQ oW cV J<|Z J<|bR h fun e1 Z' h=>eE eh bH J Z'<|X (eC (D J) hI)<|Z J<|aB J (bu vQ oW J J)<|aB J (bp cV J J)<|aB J (ca J)<|aB J (fun Y=>dV eh bH J (bg J Y) (bg J Y) Z')<|aB J (bp bH J J)<|aB J (fun Y=>d8 (bg J Y) hI)<|dG J<|bV h J (fun h=>?_) (fun h=>?_)
     ·exact O<|bo<|bF<|cF<|ae<|cF<|cF<|ae<|cF<|so h▸aC J J
     ·refine aW<|ah<|an<|ai<|Z J<|X (cU (D J) hI)<|dM J<|aJ ?_;exact aY (aM (ih1 (i64.wrap (k+1)) h) (aX J))
    ·refine cL<|am<|am<|bL<|an<|O<|aU vR sj sE J<|ej h agD (ab3 _) (co J) fun r h=>Z J<|dJ J J<|dJ J J<|dM J<|aK J<|aw J<|X (d9 (D J) hI)<|bC ?_;refine fz h J (fun h=>?_) (fun h=>?_)
     ·exact O<|bo<|bF<|cF<|ae<|cF<|so h▸aC J J
     ·refine aW<|ah<|an<|ai<|Z J<|X (cU (D J) hI)<|dM J<|aJ ?_;exact aY (aM (ih (i64.wrap (i+1)) h) (aX J))
  ·exact cL<|am<|am<|bL<|an<|O<|bo<|bF<|so h▸aC J J
def ZR n{R}(h:yl n=some R):dk bt 121 [tD sC n] (fU R):=by
 exact dX func121 J<|O<|bo<|bC<|aw J<|X (d9 (D J) hI)<|Z J<|ac J (ca J)<|ac J (fun Y=>ft (bg J Y) hI)<|cm J<|ba J<|so h▸aC J J
def Zo r{R}(h:xG r=some R):dk bt 201 [ek (bh) r] (fU R):=by
 refine dX func201 J<|O<|bo<|bC<|aN<|Z J<|bX wH J<|X (d8 (D J) hI)<|bV h J (fun h=>?_) (fun h=>?_)
 ·exact O<|bo<|bF<|ae<|so h▸aC J J
 ·refine fy<|aN<|bP<|bC<|ak<|bJ (k:=0) J fun hN=>bK ?_;refine aM (f0 (aH:=fun ls i=>(r.drop i=ls)/\rl ls=some R) (Of:=fun _ i=>[]) (Gf:=fun _ i=>[(0,ek (bh) r),(3,bI (i:Int))]) (fun i h=>?_) (fun e tl ih i h=>?_) r 0 ⟨J,h⟩) (aX J)
  ·obtain⟨K,h⟩:=h;exact JK wH K J<|an<|O<|bo<|bF<|so h▸aC J J
  ·obtain⟨K,h⟩:=h;refine JJ wH K J<|aS<|ak<|aw J<|Z J<|eE wH cb J (fh K)<|ej h FX (ya _) (co J) fun r1 h=>X (fq (D J)) ?_;refine bV h J (fun h=>?_) (fun h=>?_)
   ·exact O<|bo<|bF<|cF<|ae<|cF<|so h▸aC J J
   ·refine aW<|GX K hN J ?_;exact aY (aM (ih (i+1) ⟨ei K,h⟩) (aX J))
def Zz l{R}(h:zm l=some R):dk bt 161 [ek (u9) l] (fU R):=by
 refine dX func161 J<|O<|bo<|bC<|aN<|Z J<|bX tZ J<|X (cB hI)<|bC<|ak<|bJ (k:=5) J fun hN=>bK ?_;refine aM (f0 (aH:=fun ls i=>(l.drop i=ls)/\qc l ls=some R) (Of:=fun _ i=>[]) (Gf:=fun _ i=>[(0,ek (u9) l),(5,ek (u9) l),(6,mR l),(7,bI (i:Int))]) (fun i h=>?_) (fun e tl ih i h=>?_) l 0 ⟨J,h⟩) (aX J)
 ·obtain⟨K,h⟩:=h;refine gk K J<|an<|aw J<|bX tZ J<|X (d9 (D J) hI)<|Z J<|ac J (ca J)<|ac J (hM tZ J)<|ac J (fun Y=>ft (bg J Y) hI)<|cm J<|dM J ?_;exact bF<|so h▸aC J J
 ·obtain⟨K,h⟩:=h;refine gj K J<|aS<|ak<|O<|eE tZ xw J (fh K)<|aK J<|aw J<|ej h aeG (Zo _) (co J) fun r h=>?_;refine X (fq (D J))<|bV h J (fun h=>?_) (fun h=>?_)
  ·exact O<|bo<|bF<|cF<|ae<|cF<|so h▸aC J J
  ·refine aW<|eN K hN J ?_;exact aY (aM (ih (i+1) ⟨ei K,h⟩) (aX J))
def ZQ b seq{R}(h:xC b seq=some R):dk bt 122 [tD nN b,tD mp seq] (fU R):=by
 refine dX func122 J<|O<|eH J<|bo<|bC<|aN<|Z J<|X (eC (D J) hI)<|Z J<|aB J (ca J)<|aB J (fun Y=>d8 (bg J Y) hI)<|dG J<|bV h J (fun h=>?_) (fun h=>?_)
 ·exact O<|bo<|bF<|ae<|so h▸aC J J
 ·refine fy<|aN<|aU tw kT ua J<|bV h J (fun h=>?_) (fun h=>?_)
  ·exact O<|aU uz lZ DD J<|bX tZ J<|bl J<|Z J<|ac J (bu uy lY J J)<|ac J (bp kG J J)<|ac J (ca J)<|ac J (fun Y=>ec (bg J Y) hI)<|ac J (fun Y=>dW (bg J Y) (bg J Y))<|cm J<|ba J<|ae<|so h▸aC J J
  ·refine fy<|O<|aU uy lY kG J<|bl J<|Z J<|bR h fun t u_ h=>ac J (bu uz lZ J J)<|ac J (bp DD J J) ?_;obtain⟨r,h_,v_⟩:=og u_;have x_:=fun V=>(h_ V).1;exact ac J (fun Y=>cC ae8 (Zz _ (x_ Y)) ⟨(bg J Y),aV⟩)<|X (cw (D J) (fun V=>(bg J V)) (fun V=>(h_ V).2) v_)<|ba J<|so h▸aC J J
def abL p{R}(h:wk p=some R):dk bt 76 [tD cQ p] (fU R):=by
 refine dX func76 J<|O<|eH J<|bo<|bC<|aN<|aU zO pd sF J<|ej h afq (ZR _) (co J) fun r h=>X (fq (D J))<|bV h J (fun h=>?_) (fun h=>?_)
 ·exact O<|bo<|bF<|ae<|so h▸aC J J
 ·refine fy<|aN<|aU Bi pe bH J<|bC<|ak<|O<|bl J<|aK J<|fz h J (fun h=>?_) (fun h=>?_)
  ·refine O<|aU u0 lC kG J<|bl J<|Z J<|bR h fun t u_ h=>ac J (bu jQ dK J J)<|ac J (bp XS J J)<|ac J (bu tv ji J J)<|ac J (bp kG J J) ?_;obtain⟨r1,h_,v_⟩:=og u_;have k_:=fun V=>(h_ V).1;exact ac J (fun Y=>cC afp (ZQ _ _ (k_ Y)) ⟨(bg J Y),(bg J Y),aV⟩)<|X (cw (D J) (fun V=>(bg J V)) (fun V=>(h_ V).2) v_)<|ba J<|cF<|so h▸aC J J
  ·refine O<|bl J<|aK J<|fz h J (fun h=>?_) (fun h=>?_)
   ·refine O<|qX jQ dK J<|aU uz lZ DD J<|bX tZ J<|bl J<|Z J<|ac J (bu jQ dK J J)<|ac J (fun Y=>eg tw J kT J (bg J Y))<|ac J (bp ua J J)<|ac J (nt J)<|cm J<|Z J<|ac J (bu jQ dK J J)<|ac J (fun Y=>eg uy J lY J (bg J Y))<|ac J (bp kG J J)<|ac J (iq J)<|cm J<|aK J<|O ?_;refine Z J<|Z J<|ac J (bu tv ji J J)<|ac J (bp kG J J)<|ac J (fun Y=>d9 (bg J Y) hI)<|cm J<|Z J<|ac J (bu tv ji J J)<|ac J (bp kG J J)<|ac J (fun Y=>ft (bg J Y) hI)<|cm J<|Z J<|ac J (bu u0 lC J J)<|ac J (bp kG J J)<|ac J (bu tv ji J J)<|ac J (bp kG J J)<|ac J (fun Y=>ec (bg J Y) hI)<|ac J (fun Y=>d9 (bg J Y) (bg J Y))<|cm J<|Z J<|ac J (bu u0 lC J J)<|ac J (bp kG J J)<|ac J (fun Y=>ft (bg J Y) hI)<|cm J ?_;exact ba J<|cF<|so h▸aC J J
   ·exact aW<|ah<|an<|O<|bo<|bF<|so h▸aC J J
def Wr m{R}(h:q9 m=some R):dk bt 34 [tD ew m] (fU R):=by
 refine dX func34 J<|O<|eH J<|bo<|bC<|aN<|aU vT s0 bH J<|X (eC (D J) hI)<|Z J<|aB J (bu vT s0 J J)<|aB J (bp bH J J)<|aB J (fun Y=>d8 (bg J Y) hI)<|dG J<|Z J<|aB J (bu vS sZ J J)<|aB J (bp bH J J)<|aB J (fun Y=>eC (bg J Y) hI)<|dG J<|Z J ?_;refine aB J (bu vS sZ J J)<|aB J (bp bH J J)<|aB J (fun Y=>d8 (bg J Y) hI)<|dG J<|Z J<|aB J (bu uZ rA J J)<|aB J (bp bH J J)<|aB J (fun Y=>eC (bg J Y) hI)<|dG J<|Z J<|aB J (bu uZ rA J J)<|aB J (bp bH J J)<|aB J (fun Y=>d8 (bg J Y) hI)<|dG J<|bV h J (fun h=>?_) (fun h=>?_)
 ·exact O<|bo<|bF<|ae<|so h▸aC J J
 ·refine fy<|O<|aU rG nU bH J<|aU vT s0 bH J<|aU vS sZ bH J<|aU uZ rA bH J<|X (cI (y:=(⟨m.Kind,m.f_,m.To,m.P',0,0,⟨[]⟩,⟨0,0,0,0,⟨[],false,0⟩⟩,0⟩:cH)) fj Gi mU (⟨_,_,_,_,_,J,DN,J,(D J),⟨_,_,_,_,_,J,DM,J,(D J),⟨_,_,_,_,_,J,Hl,J,(D J),⟨_,_,_,_,_,J,DL,J,(D J),J⟩⟩⟩⟩))<|bD fj mU J fun b=>be fj aq J<|bC<|aN<|aU rG nU bH J<|bC ?_;refine ak<|O<|bl J<|aK J<|fz h J (fun h=>?_) (fun h=>?_)
  ·refine O<|aU tu rz bH J<|aR 5 tu J<|be bH Hk J<|bC<|O<|aU ux uw AF J<|aR 6 ux J<|be AF Hj J<|bC<|O<|aU tu rz bH J<|X (eC (D J) hI)<|Z J<|aB J (bu tu rz J J)<|aB J (bp bH J J) ?_;refine aB J (fun Y=>d8 (bg J Y) hI)<|dG J<|Z J<|bR h fun t u_ h=>aB J (bu ux uw J J)<|aB J (bp AF J J) ?_;obtain⟨r,h_,v_⟩:=og u_;have x_:=fun V=>(h_ V).1;refine aB J (fun Y=>cC agP (aci _ (x_ Y)) ⟨(bg J Y),aV⟩)<|aB J (nt J)<|X (iQ (D J) (fun V=>(bg J (sL V))) (fun V=>(h_ V).2) v_)<|bV h J (fun h=>?_) (fun h=>?_)
   ·exact O<|bo<|bF<|cF<|aF<|so h▸aC J J
   ·exact aW<|ah<|an<|O<|X (aA (x:=(cH.mk m.Kind m.f_ m.To m.P' 0 m.U' m.b_ ⟨0,0,0,0,⟨[],false,0⟩⟩ 0)) fj J J bm (.head _) (D J))<|eb fj J<|ej h Us (Fi _ _) (co J) fun r1 h=>ba J<|aF<|so h▸aC J J
  ·refine dP (aH:=fun x=>m6 m x=some R) (Of:=fun x=>[s ew 34 b (⟨m.Kind,m.f_,m.To,m.P',0,0,⟨[]⟩,⟨0,0,0,0,⟨[],false,0⟩⟩,0⟩:cH)]) (Gf:=fun x=>[(1,da ew m),(3,Q (M b 0)),(43,bI m.Kind),(66,fU x)]) (fun x h=>?_) (fun hx=>?_)
   ·skip;refine fz h J (fun h=>?_) (fun h=>?_)
    ·exact aW<|ah<|an<|O<|X (aA (x:=(⟨m.Kind,m.f_,m.To,m.P',0,0,⟨[]⟩,⟨0,0,0,0,⟨[],false,0⟩⟩,0⟩:cH)) fj J J bm (.head _) (D J))<|eb fj J<|ej h Us (Fi _ _) (co J) fun r2 h=>ba J<|aF<|so h▸aC J J
    ·refine dP (aH:=fun x1=>ui m x1=some R) (Of:=fun x1=>[s ew 34 b (⟨m.Kind,m.f_,m.To,m.P',0,0,⟨[]⟩,⟨0,0,0,0,⟨[],false,0⟩⟩,0⟩:cH)]) (Gf:=fun x1=>[(1,da ew m),(3,Q (M b 0)),(43,bI m.Kind),(70,fU x1)]) (fun x1 h=>?_) (fun K1=>?_)
     ·skip;refine fz h J (fun h=>?_) (fun h=>?_)
      ·refine O<|aU qE pT bH J<|aR 4 qE J<|be bH DK J<|bC<|O<|aU rF ry mX J<|aR 7 rF J<|be mX DI J<|bC<|O<|bP<|bC ?_;refine dP (aH:=fun kind=>q8 m kind=some R) (Of:=fun kind=>[s ew 34 b (cH.mk m.Kind m.f_ m.To m.P' m.e_ 0 ⟨[]⟩ m.C' 0)]) (Gf:=fun kind=>[(1,da ew m),(3,Q (M b 0)),(4,bI kind)]) (fun kind h=>?_) (fun K2=>?_)
       ·skip;refine O<|aU qE pT bH J<|X (eC (D J) hI)<|Z J<|aB J (bu qE pT J J)<|aB J (bp bH J J)<|aB J (fun Y=>d8 (bg J Y) hI)<|dG J<|Z J<|aB J (bu rF ry J J)<|aB J (fun Y=>eg Bi J pe J (bg J Y))<|aB J (bp bH J J)<|aB J (ca J)<|aB J (fun Y=>dc (bg J Y) (bg J Y))<|dG J<|Z J<|bR h fun t1 E_ h=>aB J (bu rF ry J J)<|aB J (bp mX J J) ?_;obtain⟨r3,r_,F_⟩:=og E_;have q_r3g:=fun V=>(r_ V).1;refine aB J (fun Y=>cC aga (abL _ (q_r3g Y)) ⟨(bg J Y),aV⟩)<|aB J (nt J)<|X (iQ (D J) (fun V=>(bg J (sL V))) (fun V=>(r_ V).2) F_)<|bV h J (fun h=>?_) (fun h=>?_)
        ·exact O<|bo<|bF<|cF<|aF<|so h▸aC J J
        ·exact aW<|ah<|an<|O<|X (aA (x:=(cH.mk m.Kind m.f_ m.To m.P' m.e_ 0 ⟨[]⟩ m.C' 0)) fj J J bm (.head _) (D J))<|eb fj J<|ej h Us (Fi _ _) (co J) fun r4 h=>ba J<|aF<|so h▸aC J J
       ·skip;refine O<|aU rG nU bH J<|bl J<|bV h J (fun h=>?_) (fun h=>?_)
        ·refine ai<|bP<|aJ ?_;exact bE (K2 2 h) (aX J)
        ·refine aW ?_;exact bE (K2 1 h) (aX J)
      ·refine O<|bl J<|aK J<|fz h J (fun h=>?_) (fun h=>?_)
       ·refine O<|aU rE rx wa J<|aR 14 rE J<|be wa DH J<|bC<|O<|aU rE rx wa J<|mV J<|Z J<|ac J (bu rE rx J J)<|ac J (bp wa J J)<|ac J (ud J)<|cm J<|bV h J (fun h=>?_) (fun h=>?_)
        ·exact O<|bo<|bF<|cF<|aF<|so h▸aC J J
        ·exact aW<|ah<|an<|O<|X (aA (x:=(cH.mk m.Kind m.f_ m.To m.P' 0 0 ⟨[]⟩ ⟨0,0,0,0,⟨[],false,0⟩⟩ m.G_)) fj J J bm (.head _) (D J))<|eb fj J<|ej h Us (Fi _ _) (co J) fun r5 h=>ba J<|aF<|so h▸aC J J
       ·exact O<|bo<|bF<|cF<|aF<|so h▸aC J J
     ·skip;refine O<|bl J<|aK J<|fz h J (fun h=>?_) (fun h=>?_)
      ·refine aW ?_;exact bE (K1 (m.Kind==3) h) (aX J)
      ·refine ai<|bl J<|dM J<|aJ ?_;exact bE (K1 (m.Kind==4) h) (aX J)
   ·skip;refine O<|bl J<|aK J<|fz h J (fun h=>?_) (fun h=>?_)
    ·refine aW ?_;exact bE (hx (m.Kind==2) h) (aX J)
    ·refine O<|bl J<|aK J<|fz h J (fun h=>?_) (fun h=>?_)
     ·refine aW ?_;exact bE (hx (m.Kind==6) h) (aX J)
     ·refine ai<|bl J<|dM J<|aJ ?_;exact bE (hx (m.Kind==7) h) (aX J)
def acv m{R}(h:xO m=some R):dk bt 16 [tD ew m] (fU R):=by
 refine dX func16 J<|O<|eH J<|bo<|bC<|O<|eb fj J<|ej h adV (Wr _) (co J) fun r h=>Z J<|bR h fun t u_ h=>ac J (fun Y=>CM fj J J) ?_;obtain⟨r1,h_,v_⟩:=og u_;have k_:=fun V=>(h_ V).1;exact ac J (fun Y=>cC aeU (WC _ (k_ Y)) ⟨(bg J Y),aV⟩)<|ac J (hM gV J)<|ac J (fun Y=>ft (bg J Y) hI)<|X (cw (D J) (fun V=>(bg J V)) (fun V=>(h_ V).2) v_)<|ba J<|so h▸aC J J
