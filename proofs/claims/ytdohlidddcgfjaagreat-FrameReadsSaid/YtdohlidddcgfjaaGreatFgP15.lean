import Derived.Test.YtdohlidddcgfjaaGreatFgT
import Derived.Test.YtdohlidddcgfjaaGreatFgP14
set_option linter.all false
namespace Go.Proofs.YtdohlidddcgfjaaGreat
open Go Tryz
set_option maxRecDepth 100000
def YX tag{R}(h:AV tag=some R):dk bt 247 [bI tag] (bI R):=by
 refine dX func247 J<|O<|bP<|bC<|aS<|ak<|aw J<|X (eC (D J) hI)<|Z J<|aB J (ca J)<|aB J (fun Y=>d8 (bg J Y) hI)<|dG J<|aK J<|fz h J (fun h=>?_) (fun h=>?_)
 ·exact O<|ea<|cF<|so h▸aC J J
 ·refine aw J<|X (ft (D J) hI)<|aK J<|fz h J (fun h=>?_) (fun h=>?_)
  ·exact O<|ea<|cF<|so h▸aC J J
  ·refine aw J<|X (ft (D J) hI)<|aK J<|fz h J (fun h=>?_) (fun h=>?_)
   ·exact O<|ea<|cF<|so h▸aC J J
   ·exact aW<|ah<|an<|O<|ea<|so h▸aC J J
def Sf tag{R}(h:vy tag=some R):dk bt 227 [bI tag] (bI R):=by
 refine dX func227 J<|O<|bP<|bC<|aN<|Z J<|bl J<|Z J<|aB J (ca J)<|aB J (fun Y=>d9 (bg J Y) hI)<|aB J (ov J)<|d7 J J J J (fun Y=>ki J)<|d7 J J J J (fun Y=>ft (bg J Y) hI)<|aB J (fun Y=>j3 (bg J Y) (fun V=>(bg J (ub Y V))))<|dG J<|bV h J (fun h=>?_) (fun h=>?_)
 ·exact O<|ea<|ae<|so h▸aC J J
 ·exact fy<|aw J<|ej h aec (YX _) (co J) fun r h=>ba J<|so h▸aC J J
def YM v{R}(h:xI v=some R):dk bt 277 [tD bh v] (fU R):=by
 exact dX func277 J<|O<|eH J<|bo<|bC<|O<|eb cb J<|ej h FX (ya _) (co J) fun r h=>Z J<|ac J (bu oC kS J J)<|ac J (bp bH J J)<|ac J (ud J)<|cm J<|ba J<|so h▸aC J J
def YP n{R}(h:mu n=some R):dk bt 263 [tD bG n] (fU R):=by
 refine dX func263 J<|O<|eH J<|bo<|bC<|aN<|aU jj eY bH J<|bC<|ak<|O<|bl J<|aK J<|fz h J (fun h=>?_) (fun h=>?_)
 ·exact O<|aU uA oo cb J<|ej h adX (YM _) (co J) fun r h=>Z J<|ac J (bu pF j8 J J)<|ac J (bp bH J J)<|ac J (iq J)<|cm J<|ba J<|cF<|so h▸aC J J
 ·refine O<|bl J<|aK J<|fz h J (fun h=>?_) (fun h=>?_)
  ·exact O<|aU uA oo cb J<|X (cI cb vF ge J)<|X (BR FP (D J) (D J))<|Z J<|ac J (bu pF j8 J J)<|ac J (bp bH J J)<|ac J (fun Y=>d9 (bg J Y) hI)<|cm J<|Z J<|ac J (bu pF j8 J J)<|ac J (bp bH J J)<|ac J (fun Y=>eC (bg J Y) hI)<|cm J<|ba J<|cF<|so h▸aC J J
  ·exact aW<|ah<|an<|O<|aU uA oo cb J<|X (cI cb vF ge J)<|X (BR FP (D J) (D J))<|Z J<|ac J (bu pF j8 J J)<|ac J (bp bH J J)<|ac J (iq J)<|cm J<|ba J<|so h▸aC J J
def Wt: ∀(fu:Nat) (e:bQ) (place:Int) {R:Int} (h:jY fu e place=some R),dk bt 255 [tD bT e,bI place] (bI R):=by
 intro fu
 induction fu with
 |zero=>intro e place R h;exact(nn h).elim
 |succ fu ihR=>
  intro e place R h;refine dX func255 J<|O<|eH J<|bP<|bC<|aN<|Z J<|X (eC (D J) hI)<|Z J<|aB J (ca J)<|aB J (bu ia fD J J)<|aB J (bp pO J J)<|aB J (hM mo J)<|aB J (fun Y=>d9 (bg J Y) (bg J Y))<|dG J<|bV h J (fun h=>?_) (fun h=>?_)
  ·exact O<|ea<|ae<|so h▸aC J J
  ·refine fy<|O<|aU ia fD pO J<|Z J<|bR h fun e1 Z' h=>eE mo fF J Z'<|bD fF md J fun b=>be fF aq J<|bj 5 J<|bC<|O<|aU jj eY bH J<|ej h aaC (Sf _) (co J) fun r h=>aK J ?_;refine aN<|Z J<|X (eC (D J) hI)<|Z J<|bR h fun t u_ h=>aB J (fun Y=>CM fF J J) ?_;obtain⟨r1,h_,v_⟩:=og u_;have k_:=fun V=>(h_ V).1;refine aB J (fun Y=>cC ad1 (YP _ (k_ Y)) ⟨(bg J Y),aV⟩)<|aB J (nt J)<|X (iQ (D J) (fun V=>(bg J (sL V))) (fun V=>(h_ V).2) v_)<|bV h J (fun h=>?_) (fun h=>?_)
   ·exact O<|ea<|ae<|so h▸aC J J
   ·refine fy<|aN<|Z J<|bl J<|bV h J (fun h=>?_) (fun h=>?_)
    ·refine aN<|aU qP rC bH J<|mV J<|Z J<|aB J (bu pG pD J J)<|aB J (bp bH J J)<|aB J (ud J)<|dG J<|bV h J (fun h=>?_) (fun h=>?_)
     ·exact O<|ea<|ae<|ae<|so h▸aC J J
     ·exact fy<|O<|ea<|ae<|so h▸aC J J
    ·refine fy<|O<|eb hY J<|Z J<|X (ec (D J) hI)<|ej h WY (ihR _ _) (co J) fun r2 h=>aK J<|aN<|Z J<|bl J<|bV h J (fun h=>?_) (fun h=>?_)
     ·exact O<|ea<|ae<|so h▸aC J J
     ·refine fy<|aN<|Z J<|bl J<|bV h J (fun h=>?_) (fun h=>?_)
      ·refine aN<|aU qP rC bH J<|Z J<|X (ec (D J) hI)<|X (dc (D J) (D J))<|Z J<|aB J (bu pG pD J J)<|aB J (bp bH J J)<|aB J (ud J)<|dG J<|bV h J (fun h=>?_) (fun h=>?_)
       ·exact O<|ea<|ae<|ae<|so h▸aC J J
       ·exact fy<|aw J<|X (cU (D J) hI)<|ba J<|ae<|so h▸aC J J
      ·refine fy<|O<|eb hY J<|Z J<|X (ec (D J) hI)<|Z J<|X (ec (D J) (D J))<|ej h WY (ihR _ _) (co J) fun r3 h=>aK J<|aN<|Z J<|bl J<|Z J<|aB J (bu pG pD J J)<|aB J (bp bH J J)<|aB J (ca J)<|aB J (fun Y=>ec (bg J Y) hI) ?_;refine aB J (fun Y=>dc (bg J Y) (bg J Y))<|dG J<|Z J<|aB J (bu qP rC J J)<|aB J (bp bH J J)<|aB J (ca J)<|aB J (fun Y=>ec (bg J Y) hI)<|aB J (ca J)<|aB J (fun Y=>ec (bg J Y) (bg J Y))<|aB J (fun Y=>dc (bg J Y) (bg J Y))<|dG J<|bV h J (fun h=>?_) (fun h=>?_)
       ·exact O<|ea<|ae<|so h▸aC J J
       ·exact fy<|aw J<|Z J<|X (cU (D J) (D J))<|X (cU (D J) hI)<|ba J<|so h▸aC J J
def YT e place{R}(h:C1 e place=some R):dk bt 255 [tD bT e,bI place] (bI R):=Wt de e place h
def Y0 e{R}(h:xE e=some R):dk bt 240 [tD bT e] (fU R):=by
 refine dX func240 J<|O<|eH J<|bo<|bC<|aS<|bR h fun t u_ h=>?_;obtain⟨r,h_,v_⟩:=og u_;have x_:=fun V=>(h_ V).1;refine ga (ts:=[_,_,_,_,_,_,_,_,_,_,_,_,_,_,_,_,_,_,_,_,_,_,_]) mixed J J
  ⟨Dm 1 J J (sP ia fD J J),
  ⟨kF 0 pO J J,
  ⟨eS 4 1 J J (zln mo J),
  ⟨eS 5 2 J J (d9 (D J) hI),
  ⟨eS 6 3 J J (ki J),
  ⟨te 1 7 4 J J J (eZ J J J J (fun Y=>sP ia fD J J)),
  ⟨iX 8 5 7 4 J J J (eZ J J J J (fun Y=>fC pO J J (bg J Y))),
  ⟨iX 9 6 7 4 J J J (eZ J J J J (fun Y=>fK mo (bg J Y))),
  ⟨iX 10 7 7 4 J J J (eZ J J J J (fun Y=>ft (bg J Y) hI)),
  ⟨fR 7 4 11 8 J J J (UK J J),
  ⟨eS 12 9 J J (ki J),
  ⟨te 1 13 10 J J J (eZ J J J J (fun Y=>CM hY J J)),
  ⟨te 1 13 10 J J J (eZ J J J J (fun Y=>sP ia fD J J)),
  ⟨iX 15 12 13 10 J J J (eZ J J J J (fun Y=>fC pO J J (bg J Y))),
  ⟨iX 16 13 13 10 J J J (eZ J J J J (fun Y=>fK mo (bg J Y))),
  ⟨iX 17 14 13 10 J J J (eZ J J J J (fun Y=>ec (bg J Y) hI)),
  ⟨AC 14 11 18 15 13 10 J J J J (eZ J J J J (fun Y=>cC WY (YT _ _ (x_ Y)) ⟨(bg J Y),(bg J Y),aV⟩)),
  ⟨te 1 13 10 J J J (eZ J J J J (fun Y=>sP ia fD J J)),
  ⟨iX 20 17 13 10 J J J (eZ J J J J (fun Y=>fC pO J J (bg J Y))),
  ⟨iX 21 18 13 10 J J J (eZ J J J J (fun Y=>fK mo (bg J Y))),
  ⟨AC 19 16 22 19 13 10 J J J J (eZ J J J J (fun Y=>dW (bg J Y) (bg J Y))),
  ⟨fR 13 10 23 20 J J J (cw (D J) (fun V=>(bg J V)) (fun V=>(h_ V).2) v_),
  ⟨eS 24 21 J J (CO J),
  aV⟩⟩⟩⟩⟩⟩⟩⟩⟩⟩⟩⟩⟩⟩⟩⟩⟩⟩⟩⟩⟩⟩⟩ ?_
 exact an<|qH<|so h▸aC J J
def GH k want{R}(h:tm k want=some R):dk bt 256 [bI k,bI want] (fU R):=by
 exact dX func256 J<|O<|bo<|bC<|aw J<|Z J<|X (dW (D J) (D J))<|Z J<|aB J (ca J)<|aB J (iq J)<|dG J<|ba J<|so h▸aC J J
def YZ tag l r{R}(h:uR tag l r=some R):dk bt 241 [bI tag,bI l,bI r] (tT [bI R.1,fU R.2]):=by
 refine dX func241 J<|O<|bP<|bo<|bC<|aS<|ak<|aw J<|bl J<|Z J<|aB J (ca J)<|aB J (fun Y=>d9 (bg J Y) hI)<|aB J (ov J)<|d7 J J J J (fun Y=>ki J)<|d7 J J J J (fun Y=>ft (bg J Y) hI)<|aB J (fun Y=>j3 (bg J Y) (fun V=>(bg J (ub Y V))))<|dG J<|aK J ?_;refine fz h J (fun h=>?_) (fun h=>?_)
 ·refine aw J<|ej h Su (GH _ _) (co J) fun r1 h=>Z J<|bR h fun t u_ h=>ac J (ca J) ?_;obtain⟨r2,h_,v_⟩:=og u_;have Q_:=fun V=>(h_ V).1;exact ac J (fun Y=>cC Su (GH _ _ (Q_ Y)) ⟨(bg J Y),hI,aV⟩)<|X (cw (D J) (fun V=>(bg J V)) (fun V=>(h_ V).2) v_)<|bP<|ba J<|cF<|so h▸cM J J J
 ·refine aw J<|bl J<|Z J<|aB J (ca J)<|aB J (fun Y=>d9 (bg J Y) hI)<|dG J<|aK J<|fz h J (fun h=>?_) (fun h=>?_)
  ·refine aw J<|ej h Su (GH _ _) (co J) fun r3 h=>Z J<|bR h fun t1 E_ h=>ac J (ca J) ?_;obtain⟨r4,r_,F_⟩:=og E_;have q_r4g:=fun V=>(r_ V).1;exact ac J (fun Y=>cC Su (GH _ _ (q_r4g Y)) ⟨(bg J Y),hI,aV⟩)<|X (cw (D J) (fun V=>(bg J V)) (fun V=>(r_ V).2) F_)<|bP<|ba J<|cF<|so h▸cM J J J
  ·refine aw J<|bl J<|Z J<|aB J (ca J)<|aB J (iq J)<|dG J<|aK J<|fz h J (fun h=>?_) (fun h=>?_)
   ·exact O<|bP<|bo<|bF<|cF<|so h▸cM J J J
   ·exact aW<|ah<|an<|aw J<|Z J<|X (dW (D J) (D J))<|Z J<|aB J (ca J)<|aB J (iq J)<|dG J<|Z J<|aB J (ca J)<|aB J (iq J)<|dG J<|bP<|ba J<|so h▸cM J J J
def LV e g'{R}(h:uT e g'=some R):dk bt 213 [tD bT e,lk g'] (tT [bI R.1,bI R.2]):=by
 refine dX func213 J<|O<|eH J<|bP<|bP<|bC<|aN<|eb hY J<|ej h aeg (Y0 _) (co J) fun r h=>X (fq (D J))<|bV h J (fun h=>?_) (fun h=>?_)
 ·exact O<|bP<|ea<|ae<|so h▸cM J J J
 ·refine fy<|aN<|Z J<|bX eh J<|X (cB hI)<|bC<|ak<|bJ (k:=20) J fun hN=>bK ?_;refine aM (f0 (aH:=fun ls i=>(g'.drop i=ls)/\sS e g' ls=some R) (Of:=fun _ i=>[]) (Gf:=fun _ i=>[(1,lk g'),(2,da bT e),(20,lk g'),(21,mR g'),(22,bI (i:Int))]) (fun i h=>?_) (fun e1 tl ih i h=>?_) g' 0 ⟨J,h⟩) (aX J)
  ·obtain⟨K,h⟩:=h;refine gk K J<|an<|aN<|aU ia fD pO J<|bX mo J<|X (cB hI)<|bC<|ak<|bJ (k:=34) J fun hN1=>?_;refine bK ?_;refine aM (f0 (aH:=fun ls1 i1=>(e.i'.drop i1=ls1)/\qi e g' ls1=some R) (Of:=fun _ i1=>[]) (Gf:=fun _ i1=>[(1,lk g'),(2,da bT e),(34,ek (bG) e.i'),(35,mR e.i'),(36,bI (i1:Int))]) (fun i1 h=>?_) (fun e2 tl1 ih1 i1 h=>?_) e.i' 0 ⟨J,h⟩) (aX J)
   ·obtain⟨l_,h⟩:=h;refine gk l_ J<|an<|O<|cn false cj 3<|X (cg vk)<|bC<|aN<|aU ia fD pO J ?_;refine bX mo J<|X (cB hI)<|bC<|ak<|bJ (k:=52) J fun hN2=>bK ?_;refine aM (nX (aH:=fun ls2 i2 own l c=>(e.i'.drop i2=ls2)/\eI g' ls2 own=some R) (Of:=fun _ i2 own l c=>[d5 cj 3 l c own]) (Gf:=fun _ i2 own l c=>[(1,lk g'),(10,oI l c own),(52,ek (bG) e.i'),(53,mR e.i'),(54,bI (i2:Int))]) (fun i2 own l c h=>?_) (fun e3 tl2 ih2 i2 own l c h=>?_) e.i' 0 y6 none 0 ⟨J,h⟩) (aX J)
    ·obtain⟨hx2,h⟩:=h;refine gk hx2 J<|an<|aw J<|Z J<|X (jg eh (.head _) (D J))<|X (ec (D J) hI)<|bR h fun e4 O_ h=>X (fP eh bH (.head _) (D J) (D J) O_)<|X (kJ (r:=cj) (i:=(IntKind.i64.wrap ((own.length:Int)-1))) (foff:=0) bH J J bm J (.head _) O_ (D J))<|dM J<|bP ?_;exact bF<|aF<|so h▸cM J J J
    ·obtain⟨hx2,h⟩:=h;refine gj hx2 J<|aS<|ak<|O<|eE mo fF J (fh hx2)<|bD fF md J fun b=>be fF aq J<|bj 12 J<|bC<|ak<|O ?_;refine aU jj eY bH J<|bl J<|aK J<|fz h J (fun h=>?_) (fun h=>?_)
     ·refine ai<|Z J<|qX uA oo J<|aU oC kS bH J<|X (aT (r:=cj) (ys:=[e3.Value.Kind]) (xs:=[.tmp 92]) eh bH J J J J J ⟨(D J),aV⟩)<|bR h fun own1 q_own1 h=>bA bH J J J J eh J J (D J) (D J) q_own1 fun l1 c1=>dM J<|aJ<|ah<|eN hx2 hN2 J ?_;exact aY (aM (ih2 (i2+1) own1 l1 c1 ⟨ei hx2,h⟩) (aX J))
     ·refine O<|aU jj eY bH J<|bl J<|aK J<|fz h J (fun h=>?_) (fun h=>?_)
      ·refine ai<|Z J<|Z J<|aU pF j8 bH J<|bR h fun e5 q_e5 h=>eE eh bH J q_e5<|X (aT (r:=cj) (ys:=[e5]) (xs:=[.tmp 104]) eh bH J J J J J ⟨(D J),aV⟩)<|bR h fun own2 q_own2 h=>bA bH J J J J eh J J (D J) (D J) q_own2 fun l2 c2=>dM J<|aJ<|ah<|eN hx2 hN2 J ?_;exact aY (aM (ih2 (i2+1) own2 l2 c2 ⟨ei hx2,h⟩) (aX J))
      ·refine aw J<|aU qP rC bH J<|bR h fun e6 q_e6 h=>X (fP eh bH (.head _) (D J) (D J) q_e6)<|X (kJ (r:=cj) (i:=e3.L) (foff:=0) bH J J bm J (.head _) q_e6 (D J))<|dM J<|bP<|bC ?_;refine dP (aH:=fun r1=>sU (eI g' tl2) e3 own e6 r1=some R) (Of:=fun r1=>[d5 cj 3 l c own]) (Gf:=fun r1=>[(1,lk g'),(10,oI l c own),(12,da bG e3),(13,bI e6),(14,bI r1),(52,ek (bG) e.i'),(53,mR e.i'),(54,bI (i2:Int))]) (fun r1 h=>?_) (fun hx=>?_)
       ·skip;refine O<|aU jj eY bH J<|Z J<|Z J<|ej h aef (YZ _ _ _) (co J) fun r2 h=>Z J<|dJ J J<|dJ J J<|dM J<|aK J<|aN<|Z J<|X (fq (D J))<|bV h J (fun h=>?_) (fun h=>?_)
        ·exact O<|bP<|ea<|ae<|KJ<|cF<|ae<|cF<|aF<|so h▸cM J J J
        ·refine fy<|ai<|Z J<|Z J<|X (aT (r:=cj) (ys:=[r2.1]) (xs:=[.tmp 82]) eh bH J J J J J ⟨(D J),aV⟩)<|bR h fun own3 q_own3 h=>bA bH J J J J eh J J (D J) (D J) q_own3 fun l3 c3=>dM J<|aJ<|ah<|eN hx2 hN2 J ?_;exact aY (aM (ih2 (i2+1) own3 l3 c3 ⟨ei hx2,h⟩) (aX J))
       ·skip;refine O<|aU pG pD bH J<|X (d9 (D J) hI)<|bV h J (fun h=>?_) (fun h=>?_)
        ·refine ai<|Z J<|aU pG pD bH J<|bR h fun e7 q_e7 h=>X (fP eh bH (.head _) (D J) (D J) q_e7)<|X (kJ (r:=cj) (i:=e3.R) (foff:=0) bH J J bm J (.head _) q_e7 (D J))<|dM J<|aJ ?_;exact bE (hx e7 h) (aX J)
        ·refine aW ?_;exact bE (hx 0 h) (aX J)
   ·obtain⟨l_,h⟩:=h;refine gj l_ J<|aS<|ak<|O<|eE mo fF J (fh l_)<|bD fF md J fun b1=>be fF aq J<|bj 9 J<|bC<|O<|qX jj eY J ?_;refine eb bH J<|bl J<|Z J<|ac J (bu pF j8 J J)<|ac J (bp bH J J)<|ac J (ca J)<|ac J (hM eh J)<|ac J (fun Y=>d9 (bg J Y) (bg J Y))<|cm J<|bV h J (fun h=>?_) (fun h=>?_)
    ·exact O<|bP<|ea<|cF<|ae<|cF<|so h▸cM J J J
    ·refine aW<|eN l_ hN1 J ?_;exact aY (aM (ih1 (i1+1) ⟨ei l_,h⟩) (aX J))
  ·obtain⟨K,h⟩:=h;refine gj K J<|aS<|ak<|O<|eE eh bH J (fh K)<|aK J<|aw J<|X (eC (D J) hI)<|Z J ?_;refine aB J (ca J)<|aB J (fun Y=>d8 (bg J Y) hI)<|dG J<|bV h J (fun h=>?_) (fun h=>?_)
   ·exact O<|bP<|ea<|cF<|ae<|cF<|so h▸cM J J J
   ·refine aW<|eN K hN J ?_;exact aY (aM (ih (i+1) ⟨ei K,h⟩) (aX J))
def Sh e g'{R}(h:vx e g'=some R):dk bt 211 [tD bT e,lk g'] (fU R):=by
 refine dX func211 J<|O<|eH J<|bo<|bC<|O<|eb hY J<|Z J<|ej h Xa (LV _ _) (co J) fun r h=>Z J<|dJ J J<|dJ J J<|dM J<|aK J<|aw J<|bl J ?_;exact Z J<|ac J (ca J)<|ac J (iq J)<|ac J (ov J)<|cO J J J J (fun Y=>ki J)<|cO J J J J (fun Y=>dW (bg J Y) hI)<|ac J (fun Y=>ke (bg J Y) (fun V=>(bg J (ub Y (sL V)))))<|cm J<|ba J<|so h▸aC J J
def Zh a1 g'{R}(h:nG a1 g'=some R):dk bt 212 [tD eO a1,lk g'] (tT [bI R.1,fU R.2]):=by
 refine dX func212 J<|O<|eH J<|bP<|bo<|bC<|aN<|aU kz je bH J<|bl J<|bV h J (fun h=>?_) (fun h=>?_)
 ·refine aS ?_;refine ga (ts:=[_,_,_,_,_,_,_]) mixed J J
   ⟨Dm 2 J J (sP sm oX J J),
   ⟨eS 11 0 J J (sP ia fD J J),
   ⟨kF 1 pO J J,
   ⟨eS 13 2 J J (zln mo J),
   ⟨eS 14 3 J J (zei J),
   ⟨zd0 J (zai),
   ⟨eS 15 4 J J (CO J),
   aV⟩⟩⟩⟩⟩⟩⟩ ?_
  exact an<|qH<|ae<|so h▸cM J J J
 ·refine fy<|O<|aU sm oX hY J<|Z J<|ej h Xa (LV _ _) (co J) fun r h=>Z J<|dJ J J<|dJ J J<|dM J<|aK J<|aN<|aU kz je bH J<|X (eC (D J) hI)<|Z J<|aB J (bu kz je J J) ?_;refine aB J (bp bH J J)<|aB J (fun Y=>d8 (bg J Y) hI)<|dG J<|Z J<|aB J (ca J)<|aB J (ud J)<|dG J<|bV h J (fun h=>?_) (fun h=>?_)
  ·exact O<|bP<|bo<|bF<|ae<|so h▸cM J J J
  ·refine fy<|aN<|aU kz je bH J<|bl J<|Z J<|ac J (ca J)<|ac J (ud J)<|cm J<|Z J<|ac J (ca J)<|ac J (ud J)<|cm J<|bV h J (fun h=>?_) (fun h=>?_)
   ·exact O<|bP<|bo<|bF<|ae<|so h▸cM J J J
   ·refine fy<|aN<|aU kz je bH J<|X (d9 (D J) hI)<|bV h J (fun h=>?_) (fun h=>?_)
    ·exact aw J<|dM J<|bo<|bF<|ae<|so h▸cM J J J
    ·exact fy<|O<|bP<|bo<|bF<|so h▸cM J J J
