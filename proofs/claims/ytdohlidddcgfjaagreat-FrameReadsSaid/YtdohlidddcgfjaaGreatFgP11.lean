import Derived.Test.YtdohlidddcgfjaaGreatFgT
import Derived.Test.YtdohlidddcgfjaaGreatFgP10
set_option linter.all false
namespace Go.Proofs.YtdohlidddcgfjaaGreat
open Go IntKind Tryz
set_option maxRecDepth 100000
def QB a1 b{R}(h:oQ a1 b=some R):dk bt 48 [lk a1,lk b] (fU R):=by
 refine dX func48 J<|O<|bo<|bC<|aN<|Z J<|bX eh J<|Z J<|bX eh J<|X (dc (D J) (D J))<|bV h J (fun h=>?_) (fun h=>?_)
 ·exact O<|bo<|bF<|ae<|so h▸aC J J
 ·refine fy<|aN<|bP<|bC<|ak<|bJ (k:=0) J fun hN=>bK ?_;refine aM (f0 (aH:=fun ls i=>(a1.drop i=ls)/\qI b ls i=some R) (Of:=fun _ i=>[]) (Gf:=fun _ i=>[(0,lk a1),(1,lk b),(5,bI (i:Int))]) (fun i h=>?_) (fun e tl ih i h=>?_) a1 0 ⟨J,h⟩) (aX J)
  ·obtain⟨K,h⟩:=h;exact JK eh K J<|an<|O<|bo<|bF<|so h▸aC J J
  ·obtain⟨K,h⟩:=h;refine JJ eh K J<|aS<|ak<|aS<|bR h fun e1 Z' h=>?_;refine ga (ts:=[_,_,_,_,_,_,_,_,_]) mixed J J
    ⟨fc J J,
    ⟨fc J J,
    ⟨fR 17 0 18 1 J J J (Aq eh bH J J J (fh K)),
    ⟨kF 2 bH J J,
    ⟨fc J J,
    ⟨fc J J,
    ⟨fR 21 4 22 5 J J J (Aq eh bH J J J Z'),
    ⟨kF 6 bH J J,
    ⟨fR 20 3 24 7 J J J (dc (D J) (D J)),
    aV⟩⟩⟩⟩⟩⟩⟩⟩⟩ ?_
   refine an<|fz h J (fun h=>?_) (fun h=>?_)
   ·exact O<|bo<|bF<|cF<|ae<|cF<|so h▸aC J J
   ·refine aW<|GX K hN J ?_;exact aY (aM (ih (i+1) ⟨ei K,h⟩) (aX J))
def L0 a1 b{R}(h:uS a1 b=some R):dk bt 142 [tD bT a1,tD bT b] (fU R):=by
 refine dX func142 J<|O<|eH J<|eH J<|bo<|bC<|aN<|aU ia fD pO J<|bX mo J<|aU ia fD pO J<|bX mo J<|X (dc (D J) (D J))<|bV h J (fun h=>?_) (fun h=>?_)
 ·exact O<|bo<|bF<|ae<|so h▸aC J J
 ·refine fy<|aN<|aU ia fD pO J<|bX mo J<|X (cB hI)<|bC<|ak<|bJ (k:=14) J fun hN=>bK ?_;refine aM (f0 (aH:=fun ls i=>(a1.i'.drop i=ls)/\sR b ls i=some R) (Of:=fun _ i=>[]) (Gf:=fun _ i=>[(2,da bT a1),(3,da bT b),(15,mR a1.i'),(16,bI (i:Int))]) (fun i h=>?_) (fun e tl ih i h=>?_) a1.i' 0 ⟨J,h⟩) (aX J)
  ·obtain⟨K,h⟩:=h;exact gk K J<|an<|O<|bo<|bF<|so h▸aC J J
  ·obtain⟨K,h⟩:=h;refine gj K J<|aS<|ak<|aw J<|aK J<|aS<|bR h fun e1 Z' h=>?_;refine ga (ts:=[_,_,_,_,_,_,_,_,_,_,_]) mixed J J
    ⟨Dm 2 J J (sP ia fD J J),
    ⟨kF 0 pO J J,
    ⟨fc J J,
    ⟨fR 20 1 21 2 J J J (Aq mo fF J J J (fh K)),
    ⟨kF 3 fF J J,
    ⟨Dm 3 J J (sP ia fD J J),
    ⟨kF 5 pO J J,
    ⟨fc J J,
    ⟨fR 25 6 26 7 J J J (Aq mo fF J J J Z'),
    ⟨kF 8 fF J J,
    ⟨fR 23 4 28 9 J J J (wn aaw (D J) (D J)),
    aV⟩⟩⟩⟩⟩⟩⟩⟩⟩⟩⟩ ?_
   refine an<|fz h J (fun h=>?_) (fun h=>?_)
   ·exact O<|bo<|bF<|cF<|ae<|cF<|so h▸aC J J
   ·refine aW<|eN K hN J ?_;exact aY (aM (ih (i+1) ⟨ei K,h⟩) (aX J))
def ZI a1 b{R}(h:vd a1 b=some R):dk bt 143 [ek (bT) a1,ek (bT) b] (fU R):=by
 refine dX func143 J<|O<|bo<|bC<|aN<|Z J<|bX uL J<|Z J<|bX uL J<|X (dc (D J) (D J))<|bV h J (fun h=>?_) (fun h=>?_)
 ·exact O<|bo<|bF<|ae<|so h▸aC J J
 ·refine fy<|aN<|Z J<|bX uL J<|X (cB hI)<|bC<|ak<|bJ (k:=11) J fun hN=>bK ?_;refine aM (f0 (aH:=fun ls i=>(a1.drop i=ls)/\rQ b ls i=some R) (Of:=fun _ i=>[]) (Gf:=fun _ i=>[(0,ek (bT) a1),(1,ek (bT) b),(12,mR a1),(13,bI (i:Int))]) (fun i h=>?_) (fun e tl ih i h=>?_) a1 0 ⟨J,h⟩) (aX J)
  ·obtain⟨K,h⟩:=h;exact gk K J<|an<|O<|bo<|bF<|so h▸aC J J
  ·obtain⟨K,h⟩:=h;refine gj K J<|aS<|ak<|aw J<|aK J<|aS<|bR h fun e1 Z' h=>bR h fun r q_ h=>?_;refine ga (ts:=[_,_,_,_,_,_,_,_,_,_]) mixed J J
    ⟨fc J J,
    ⟨fc J J,
    ⟨fR 16 0 17 1 J J J (Aq uL hY J J J (fh K)),
    ⟨kF 2 hY J J,
    ⟨fc J J,
    ⟨fc J J,
    ⟨fR 20 4 21 5 J J J (Aq uL hY J J J Z'),
    ⟨kF 6 hY J J,
    ⟨fR 19 3 23 7 J J J (cC Xe (L0 _ _ q_) ⟨(D J),(D J),aV⟩),
    ⟨eS 24 8 J J (fq (D J)),
    aV⟩⟩⟩⟩⟩⟩⟩⟩⟩⟩ ?_
   refine an<|fz h J (fun h=>?_) (fun h=>?_)
   ·exact O<|bo<|bF<|cF<|ae<|cF<|so h▸aC J J
   ·refine aW<|eN K hN J ?_;exact aY (aM (ih (i+1) ⟨ei K,h⟩) (aX J))
def ZZ a1 b{R}(h:ul a1 b=some R):dk bt 104 [tD aQ a1,tD aQ b] (fU R):=by
 refine dX func104 J<|O<|eH J<|eH J<|bo<|bC<|aN<|aU gq db bH J<|aU gq db bH J<|X (dc (D J) (D J))<|Z J<|aB J (bu jP gH J J)<|aB J (bp bH J J)<|aB J (bu jP gH J J)<|aB J (bp bH J J)<|aB J (fun Y=>dc (bg J Y) (bg J Y))<|dG J<|Z J ?_;refine aB J (bu kV iR J J)<|aB J (bp bH J J)<|aB J (bu kV iR J J)<|aB J (bp bH J J)<|aB J (fun Y=>dc (bg J Y) (bg J Y))<|dG J<|Z J<|aB J (bu rD jw J J)<|aB J (bp bH J J)<|aB J (bu rD jw J J)<|aB J (bp bH J J)<|aB J (fun Y=>dc (bg J Y) (bg J Y))<|dG J<|Z J<|aB J (bu zL tt J J)<|aB J (bp ua J J)<|aB J (bu zL tt J J)<|aB J (bp ua J J)<|aB J (fun Y=>LA KK (bg J Y) (bg J Y))<|dG J<|Z J<|aB J (bu sk lD J J)<|aB J (bp bH J J)<|aB J (bu sk lD J J) ?_;refine aB J (bp bH J J)<|aB J (fun Y=>dc (bg J Y) (bg J Y))<|dG J<|bV h J (fun h=>?_) (fun h=>?_)
 ·exact O<|bo<|bF<|ae<|so h▸aC J J
 ·refine fy<|aN<|aU iS d6 qT J<|bX ny J<|aU iS d6 qT J<|bX ny J<|X (dc (D J) (D J))<|Z J<|aB J (bu ky gp J J)<|aB J (bp wM J J)<|aB J (hM uM J)<|aB J (bu ky gp J J)<|aB J (bp wM J J)<|aB J (hM uM J)<|aB J (fun Y=>dc (bg J Y) (bg J Y))<|dG J<|Z J<|bR h fun t u_ h=>aB J (bu kU fE J J) ?_;refine aB J (bp cV J J)<|aB J (bu kU fE J J)<|aB J (bp cV J J) ?_;obtain⟨r,h_,v_⟩:=og u_;have x_:=fun V=>(h_ V).1;refine aB J (fun Y=>cC acV (QB _ _ (x_ Y)) ⟨(bg J Y),(bg J Y),aV⟩)<|aB J (nt J)<|X (iQ (D J) (fun V=>(bg J (sL V))) (fun V=>(h_ V).2) v_)<|Z J<|bR h fun t1 E_ h=>aB J (bu kp fv J J)<|aB J (bp cV J J)<|aB J (bu kp fv J J)<|aB J (bp cV J J) ?_;obtain⟨r1,r_,F_⟩:=og E_;have k_:=fun V=>(r_ V).1;refine aB J (fun Y=>cC acV (QB _ _ (k_ Y)) ⟨(bg J Y),(bg J Y),aV⟩)<|aB J (nt J)<|X (iQ (D J) (fun V=>(bg J (sL V))) (fun V=>(r_ V).2) F_)<|bV h J (fun h=>?_) (fun h=>?_)
  ·exact O<|bo<|bF<|ae<|so h▸aC J J
  ·refine fy<|aN<|bP<|bC<|ak<|bK ?_;refine aM (B6 (aH:=fun n i=>lJ a1 b n i=some R) (Of:=fun i=>[]) (Gf:=fun i=>[(2,da aQ a1),(3,da aQ b),(5,bI i)]) (fun i h=>nn h) (fun n ih i h=>?_) de 0 h) (aX J);refine cy<|aN<|Z J<|aU iS d6 qT J<|bX ny J<|im J<|bV h J (fun h=>?_) (fun h=>?_)
   ·refine fy<|aS<|ak<|aS<|bR h fun e N_ h=>bR h fun e1 Z' h=>bR h fun t2 q_t2 h=>?_;obtain⟨r2,h1t2,h0t2⟩:=og q_t2;have Q_:=fun V=>(h1t2 V).1;refine ga (ts:=[_,_,_,_,_,_,_,_,_,_,_,_,_,_,_,_,_,_,_,_,_,_,_,_,_,_,_,_,_]) mixed J J
     ⟨Dm 2 J J (sP iS d6 J J),
     ⟨kF 0 qT J J,
     ⟨fc J J,
     ⟨fR 87 1 88 2 J J J (Aq ny jt J J J N_),
     ⟨eS 89 3 J J (sP kz je J J),
     ⟨kF 4 bH J J,
     ⟨Dm 3 J J (sP iS d6 J J),
     ⟨kF 6 qT J J,
     ⟨fc J J,
     ⟨fR 93 7 94 8 J J J (Aq ny jt J J J Z'),
     ⟨eS 95 9 J J (sP kz je J J),
     ⟨kF 10 bH J J,
     ⟨fR 91 5 97 11 J J J (dc (D J) (D J)),
     ⟨eS 98 12 J J (ki J),
     ⟨te 2 99 13 J J J (eQ J J J J (fun Y=>sP iS d6 J J)),
     ⟨iX 100 14 99 13 J J J (eQ J J J J (fun Y=>fC qT J J (bg J Y))),
     ⟨te 5 99 13 J J J (eQ J J J J (fun Y=>ki J)),
     ⟨AC 101 15 102 16 99 13 J J J J (eQ J J J J (fun Y=>dV ny jt J (bg J Y) (bg J Y) N_)),
     ⟨iX 103 17 99 13 J J J (eQ J J J J (fun Y=>eg sm J oX J (bg J Y))),
     ⟨iX 104 18 99 13 J J J (eQ J J J J (fun Y=>fC hY J J (bg J Y))),
     ⟨te 3 99 13 J J J (eQ J J J J (fun Y=>sP iS d6 J J)),
     ⟨iX 106 20 99 13 J J J (eQ J J J J (fun Y=>fC qT J J (bg J Y))),
     ⟨te 5 99 13 J J J (eQ J J J J (fun Y=>ki J)),
     ⟨AC 107 21 108 22 99 13 J J J J (eQ J J J J (fun Y=>dV ny jt J (bg J Y) (bg J Y) Z')),
     ⟨iX 109 23 99 13 J J J (eQ J J J J (fun Y=>eg sm J oX J (bg J Y))),
     ⟨iX 110 24 99 13 J J J (eQ J J J J (fun Y=>fC hY J J (bg J Y))),
     ⟨AC 105 19 111 25 99 13 J J J J (eQ J J J J (fun Y=>cC Xe (L0 _ _ (Q_ Y)) ⟨(bg J Y),(bg J Y),aV⟩)),
     ⟨iX 112 26 99 13 J J J (eQ J J J J (fun Y=>fq (bg J Y))),
     ⟨fR 99 13 113 27 J J J (iQ (D J) (fun V=>(bg J (sL V))) (fun V=>(h1t2 V).2) h0t2),
     aV⟩⟩⟩⟩⟩⟩⟩⟩⟩⟩⟩⟩⟩⟩⟩⟩⟩⟩⟩⟩⟩⟩⟩⟩⟩⟩⟩⟩⟩ ?_
    refine an<|fz h J (fun h=>?_) (fun h=>?_)
    ·exact O<|bo<|bF<|cF<|ae<|cF<|so h▸aC J J
    ·refine aW<|ah<|an<|ai<|Z J<|X (cU (D J) hI)<|dM J<|aJ ?_;exact aY (aM (ih (i64.wrap (i+1)) h) (aX J))
   ·refine cL<|am<|am<|bL<|an<|aN<|bP<|bC<|ak<|bK ?_;refine aM (B6 (aH:=fun n1 i1=>lI a1 b n1 i1=some R) (Of:=fun i1=>[]) (Gf:=fun i1=>[(2,da aQ a1),(3,da aQ b),(6,bI i1)]) (fun i1 h=>nn h) (fun n1 ih1 i1 h=>?_) de 0 h) (aX J);refine cy<|aN<|Z J<|aU ky gp wM J<|bX uM J<|im J<|bV h J (fun h=>?_) (fun h=>?_)
    ·refine fy<|aS<|ak<|aS<|bR h fun e2 I_ h=>bR h fun e3 H_ h=>?_;refine ga (ts:=[_,_,_,_,_,_,_,_,_,_,_]) mixed J J
      ⟨Dm 2 J J (sP ky gp J J),
      ⟨kF 0 wM J J,
      ⟨fc J J,
      ⟨fR 123 1 124 2 J J J (Aq uM qY J J J I_),
      ⟨kF 3 qY J J,
      ⟨Dm 3 J J (sP ky gp J J),
      ⟨kF 5 wM J J,
      ⟨fc J J,
      ⟨fR 128 6 129 7 J J J (Aq uM qY J J J H_),
      ⟨kF 8 qY J J,
      ⟨fR 126 4 131 9 J J J (wn aax (D J) (D J)),
      aV⟩⟩⟩⟩⟩⟩⟩⟩⟩⟩⟩ ?_
     refine an<|fz h J (fun h=>?_) (fun h=>?_)
     ·exact O<|bo<|bF<|cF<|ae<|cF<|so h▸aC J J
     ·refine aW<|ah<|an<|ai<|Z J<|X (cU (D J) hI)<|dM J<|aJ ?_;exact aY (aM (ih1 (i64.wrap (i1+1)) h) (aX J))
    ·refine cL<|am<|am<|bL<|an<|O<|aU sN lX hY J<|aU sN lX hY J<|ej h Xe (L0 _ _) (co J) fun r3 h=>Z J<|bR h fun t3 q_t3 h=>ac J (bu sM lW J J)<|ac J (bp Cf J J)<|ac J (bu sM lW J J)<|ac J (bp Cf J J) ?_;obtain⟨r4,h1t3,h0t3⟩:=og q_t3;have q_r4g:=fun V=>(h1t3 V).1;exact ac J (fun Y=>cC aff (ZI _ _ (q_r4g Y)) ⟨(bg J Y),(bg J Y),aV⟩)<|X (cw (D J) (fun V=>(bg J V)) (fun V=>(h1t3 V).2) h0t3)<|ba J<|so h▸aC J J
def ab2 a1 b{R}(h:zq a1 b=some R):dk bt 49 [tD m5 a1,tD m5 b] (fU R):=by
 refine dX func49 J<|O<|eH J<|eH J<|bo<|bC<|aN<|aU qC om sE J<|bX mn J<|aU qC om sE J<|bX mn J<|X (dc (D J) (D J))<|bV h J (fun h=>?_) (fun h=>?_)
 ·exact O<|bo<|bF<|ae<|so h▸aC J J
 ·refine fy<|aN<|bP<|bC<|ak<|bK ?_;refine aM (B6 (aH:=fun n i=>qf a1 b n i=some R) (Of:=fun i=>[]) (Gf:=fun i=>[(2,da m5 a1),(3,da m5 b),(5,bI i)]) (fun i h=>nn h) (fun n ih i h=>?_) de 0 h) (aX J);refine cy<|aN<|Z J<|aU qC om sE J<|bX mn J<|im J<|bV h J (fun h=>?_) (fun h=>?_)
  ·refine fy<|aS<|ak<|aS<|bR h fun e N_ h=>bR h fun e1 Z' h=>bR h fun r q_ h=>?_;refine ga (ts:=[_,_,_,_,_,_,_,_,_,_,_,_]) mixed J J
    ⟨Dm 2 J J (sP qC om J J),
    ⟨kF 0 sE J J,
    ⟨fc J J,
    ⟨fR 21 1 22 2 J J J (Aq mn dL J J J N_),
    ⟨kF 3 dL J J,
    ⟨Dm 3 J J (sP qC om J J),
    ⟨kF 5 sE J J,
    ⟨fc J J,
    ⟨fR 26 6 27 7 J J J (Aq mn dL J J J Z'),
    ⟨kF 8 dL J J,
    ⟨fR 24 4 29 9 J J J (cC afz (ZZ _ _ q_) ⟨(D J),(D J),aV⟩),
    ⟨eS 30 10 J J (fq (D J)),
    aV⟩⟩⟩⟩⟩⟩⟩⟩⟩⟩⟩⟩ ?_
   refine an<|fz h J (fun h=>?_) (fun h=>?_)
   ·exact O<|bo<|bF<|cF<|ae<|cF<|so h▸aC J J
   ·refine aW<|ah<|an<|ai<|Z J<|X (cU (D J) hI)<|dM J<|aJ ?_;exact aY (aM (ih (i64.wrap (i+1)) h) (aX J))
  ·exact cL<|am<|am<|bL<|an<|O<|bo<|bF<|so h▸aC J J
def acf a1 b{R}(h:zp a1 b=some R):dk bt 24 [tD jL a1,tD jL b] (fU R):=by
 refine dX func24 J<|O<|eH J<|eH J<|bo<|bC<|aN<|aU qF kg ze J<|bX vL J<|aU qF kg ze J<|bX vL J<|X (dc (D J) (D J))<|bV h J (fun h=>?_) (fun h=>?_)
 ·exact O<|bo<|bF<|ae<|so h▸aC J J
 ·refine fy<|aN<|aU qF kg ze J<|bX vL J<|X (cB hI)<|bC<|ak<|bJ (k:=16) J fun hN=>bK ?_;refine aM (f0 (aH:=fun ls i=>(a1.L'.drop i=ls)/\sQ b ls i=some R) (Of:=fun _ i=>[]) (Gf:=fun _ i=>[(3,da jL b),(16,ek (cK) a1.L'),(17,mR a1.L'),(18,bI (i:Int))]) (fun i h=>?_) (fun e tl ih i h=>?_) a1.L' 0 ⟨J,h⟩) (aX J)
  ·obtain⟨K,h⟩:=h;exact gk K J<|an<|O<|bo<|bF<|so h▸aC J J
  ·obtain⟨K,h⟩:=h;refine gj K J<|aS<|ak<|aw J<|eE vL nr J (fh K)<|bD nr pm J fun b1=>dM J<|be nr aq J<|bj 6 J<|bC<|aS ?_;refine ai<|aU qF kg ze J<|Z J<|bR h fun e1 Z' h=>eE vL nr J Z'<|bD nr pm J fun b2=>be nr aq J<|bj 7 J<|bC<|O<|aU yv si bH J<|aU yv si bH J<|X (dc (D J) (D J))<|Z J<|aB J (bu yu sh J J)<|aB J (bp bH J J)<|aB J (bu yu sh J J)<|aB J (bp bH J J) ?_;refine aB J (fun Y=>dc (bg J Y) (bg J Y))<|dG J<|Z J<|bR h fun t u_ h=>aB J (bu vQ oW J J)<|aB J (bp cV J J)<|aB J (bu vQ oW J J)<|aB J (bp cV J J) ?_;obtain⟨r,h_,v_⟩:=og u_;have x_:=fun V=>(h_ V).1;refine aB J (fun Y=>cC acV (QB _ _ (x_ Y)) ⟨(bg J Y),(bg J Y),aV⟩)<|aB J (nt J)<|X (iQ (D J) (fun V=>(bg J (sL V))) (fun V=>(h_ V).2) v_)<|Z J<|bR h fun t1 E_ h=>aB J (bu vR sj J J)<|aB J (bp sE J J)<|aB J (fun Y=>cI (y:=(⟨e.i'⟩:fx)) IY adv MJ (⟨_,_,_,_,_,J,Hm,J,(bg J Y),J⟩))<|aB J (bu vR sj J J)<|aB J (bp sE J J)<|aB J (fun Y=>cI (y:=(⟨e1.i'⟩:fx)) IY adv MJ (⟨_,_,_,_,_,J,Hm,J,(bg J Y),J⟩)) ?_;obtain⟨r1,r_,F_⟩:=og E_;have k_:=fun V=>(r_ V).1;refine aB J (fun Y=>cC agw (ab2 _ _ (k_ Y)) ⟨(bg J Y),(bg J Y),aV⟩)<|aB J (nt J)<|X (iQ (D J) (fun V=>(bg J (sL V))) (fun V=>(r_ V).2) F_)<|bV h J (fun h=>?_) (fun h=>?_)
   ·exact O<|bo<|bF<|cF<|ae<|cF<|so h▸aC J J
   ·refine aW<|eN K hN J ?_;exact aY (aM (ih (i+1) ⟨ei K,h⟩) (aX J))
def ZS a1 b{R}(h:vh a1 b=some R):dk bt 120 [ek (bh) a1,ek (bh) b] (fU R):=by
 refine dX func120 J<|O<|bo<|bC<|aN<|Z J<|bX wH J<|Z J<|bX wH J<|X (dc (D J) (D J))<|bV h J (fun h=>?_) (fun h=>?_)
 ·exact O<|bo<|bF<|ae<|so h▸aC J J
 ·refine fy<|aN<|Z J<|bX wH J<|X (cB hI)<|bC<|ak<|bJ (k:=11) J fun hN=>bK ?_;refine aM (f0 (aH:=fun ls i=>(a1.drop i=ls)/\rR b ls i=some R) (Of:=fun _ i=>[]) (Gf:=fun _ i=>[(0,ek (bh) a1),(1,ek (bh) b),(12,mR a1),(13,bI (i:Int))]) (fun i h=>?_) (fun e tl ih i h=>?_) a1 0 ⟨J,h⟩) (aX J)
  ·obtain⟨K,h⟩:=h;exact gk K J<|an<|O<|bo<|bF<|so h▸aC J J
  ·obtain⟨K,h⟩:=h;refine gj K J<|aS<|ak<|aw J<|aK J<|aS<|bR h fun e1 Z' h=>?_;refine ga (ts:=[_,_,_,_,_,_,_,_,_]) mixed J J
    ⟨fc J J,
    ⟨fc J J,
    ⟨fR 16 0 17 1 J J J (Aq wH cb J J J (fh K)),
    ⟨kF 2 cb J J,
    ⟨fc J J,
    ⟨fc J J,
    ⟨fR 20 4 21 5 J J J (Aq wH cb J J J Z'),
    ⟨kF 6 cb J J,
    ⟨fR 19 3 23 7 J J J (wn FP (D J) (D J)),
    aV⟩⟩⟩⟩⟩⟩⟩⟩⟩ ?_
   refine an<|fz h J (fun h=>?_) (fun h=>?_)
   ·exact O<|bo<|bF<|cF<|ae<|cF<|so h▸aC J J
   ·refine aW<|eN K hN J ?_;exact aY (aM (ih (i+1) ⟨ei K,h⟩) (aX J))
def abM a1 b{R}(h:zu a1 b=some R):dk bt 75 [ek (u9) a1,ek (u9) b] (fU R):=by
 refine dX func75 J<|O<|bo<|bC<|aN<|Z J<|bX tZ J<|Z J<|bX tZ J<|X (dc (D J) (D J))<|bV h J (fun h=>?_) (fun h=>?_)
 ·exact O<|bo<|bF<|ae<|so h▸aC J J
 ·refine fy<|aN<|Z J<|bX tZ J<|X (cB hI)<|bC<|ak<|bJ (k:=11) J fun hN=>bK ?_;refine aM (f0 (aH:=fun ls i=>(a1.drop i=ls)/\vg b ls i=some R) (Of:=fun _ i=>[]) (Gf:=fun _ i=>[(0,ek (u9) a1),(1,ek (u9) b),(12,mR a1),(13,bI (i:Int))]) (fun i h=>?_) (fun e tl ih i h=>?_) a1 0 ⟨J,h⟩) (aX J)
  ·obtain⟨K,h⟩:=h;exact gk K J<|an<|O<|bo<|bF<|so h▸aC J J
  ·obtain⟨K,h⟩:=h;refine gj K J<|aS<|ak<|aw J<|aK J<|aS<|bR h fun e1 Z' h=>bR h fun r q_ h=>?_;refine ga (ts:=[_,_,_,_,_,_,_,_,_,_]) mixed J J
    ⟨fc J J,
    ⟨fc J J,
    ⟨fR 16 0 17 1 J J J (Aq tZ xw J J J (fh K)),
    ⟨kF 2 xw J J,
    ⟨fc J J,
    ⟨fc J J,
    ⟨fR 20 4 21 5 J J J (Aq tZ xw J J J Z'),
    ⟨kF 6 xw J J,
    ⟨fR 19 3 23 7 J J J (cC afr (ZS _ _ q_) ⟨(D J),(D J),aV⟩),
    ⟨eS 24 8 J J (fq (D J)),
    aV⟩⟩⟩⟩⟩⟩⟩⟩⟩⟩ ?_
   refine an<|fz h J (fun h=>?_) (fun h=>?_)
   ·exact O<|bo<|bF<|cF<|ae<|cF<|so h▸aC J J
   ·refine aW<|eN K hN J ?_;exact aY (aM (ih (i+1) ⟨ei K,h⟩) (aX J))
