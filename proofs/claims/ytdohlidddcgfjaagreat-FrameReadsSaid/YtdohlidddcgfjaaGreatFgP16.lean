import Derived.Test.YtdohlidddcgfjaaGreatFgT
import Derived.Test.YtdohlidddcgfjaaGreatFgP15
set_option linter.all false
namespace Go.Proofs.YtdohlidddcgfjaaGreat
open Go IntKind Tryz
set_option maxRecDepth 100000
def Zt n a1 b{R}(h:dq n a1 b=some R):dk bt 180 [tD aQ n,lk a1,lk b] (tT [lk R.1,fU R.2]):=by
 refine dX func180 J<|O<|eH J<|fb cj<|bo<|bC<|O<|cn false cj 3<|X (cg vk)<|bC<|O<|bo<|bC<|aN<|aU gq db bH J ?_;refine bC<|ak<|O<|bl J<|aK J<|fz h J (fun h=>?_) (fun h=>?_)
 ·refine aN<|bP<|bC<|ak<|bK<|oG ?_;refine aM (z6 (aH:=fun n1 ok i=>jX n n1 ok i=some R) (Of:=fun ok i=>[]) (Gf:=fun ok i=>[(3,da aQ n),(9,fU ok),(10,bI i)]) (fun ok i h=>nn h) (fun n1 ih ok i h=>?_) de true 0 h) (aX J);refine cy<|aN<|Z J<|aU kU fE cV J<|bX eh J<|im J<|bV h J (fun h=>?_) (fun h=>?_)
  ·refine fy<|aS<|ak<|ai<|Z J<|Z J<|bR h fun t u_ h=>ac J (bu kU fE J J)<|ac J (bp cV J J)<|ac J (ca J) ?_;obtain⟨e,h_,v_⟩:=og u_;have q_eg:=fun V=>(h_ V).1;refine ac J (fun Y=>dV eh bH J (bg J Y) (bg J Y) (q_eg Y))<|ac J (bp bH J J)<|ac J (fun Y=>d9 (bg J Y) hI)<|X (cw (D J) (fun V=>(bg J V)) (fun V=>(h_ V).2) v_)<|Z J<|bR h fun t1 E_ h=>ac J (bu kU fE J J)<|ac J (bp cV J J)<|ac J (ca J) ?_;obtain⟨e1,r_,F_⟩:=og E_;have q_e1g:=fun V=>(r_ V).1;refine ac J (fun Y=>dV eh bH J (bg J Y) (bg J Y) (q_e1g Y))<|ac J (bp bH J J)<|ac J (fun Y=>ft (bg J Y) hI)<|X (cw (D J) (fun V=>(bg J V)) (fun V=>(r_ V).2) F_)<|dM J<|aJ<|ah<|an<|ai<|Z J<|X (cU (D J) hI)<|dM J<|aJ ?_;exact aY (aM (ih t1 (i64.wrap (i+1)) h) (aX J))
  ·refine cL<|am<|am<|bL<|an<|aS ?_;refine ga (ts:=[_,_,_,_,_,_,_,_,_,_,_,_,_,_,_,_,_,_,_,_,_,_,_,_,_,_,_]) mixed J J
    ⟨Dm 3 J J (sP kU fE J J),
    ⟨kF 0 cV J J,
    ⟨fc J J,
    ⟨eS 51 2 J J (ki J),
    ⟨te 3 52 3 J J J (eZ J J J J (fun Y=>sP rD jw J J)),
    ⟨iX 53 4 52 3 J J J (eZ J J J J (fun Y=>fC bH J J (bg J Y))),
    ⟨iX 54 5 52 3 J J J (eZ J J J J (fun Y=>d9 (bg J Y) hI)),
    ⟨fR 52 3 55 6 J J J (UK J J),
    ⟨eS 56 7 J J (ki J),
    ⟨te 3 57 8 J J J (eZ J J J J (fun Y=>sP rD jw J J)),
    ⟨iX 58 9 57 8 J J J (eZ J J J J (fun Y=>fC bH J J (bg J Y))),
    ⟨iX 59 10 57 8 J J J (eZ J J J J (fun Y=>ft (bg J Y) hI)),
    ⟨fR 57 8 60 11 J J J (UK J J),
    ⟨eS 61 12 J J (ki J),
    ⟨te 3 62 13 J J J (eZ J J J J (fun Y=>sP kU fE J J)),
    ⟨iX 63 14 62 13 J J J (eZ J J J J (fun Y=>fC cV J J (bg J Y))),
    ⟨iX 64 15 62 13 J J J (eZ J J J J (fun Y=>fK eh (bg J Y))),
    ⟨iX 65 16 62 13 J J J (eZ J J J J (fun Y=>d9 (bg J Y) hI)),
    ⟨fR 62 13 66 17 J J J (UK J J),
    ⟨eS 67 18 J J (ki J),
    ⟨te 3 68 19 J J J (eZ J J J J (fun Y=>sP kU fE J J)),
    ⟨iX 69 20 68 19 J J J (eZ J J J J (fun Y=>fC cV J J (bg J Y))),
    ⟨iX 70 21 68 19 J J J (eZ J J J J (fun Y=>fK eh (bg J Y))),
    ⟨iX 71 22 68 19 J J J (eZ J J J J (fun Y=>ft (bg J Y) hI)),
    ⟨fR 68 19 72 23 J J J (UK J J),
    ⟨eS 50 1 J J (CO J),
    ⟨eS 73 24 J J (CO J),
    aV⟩⟩⟩⟩⟩⟩⟩⟩⟩⟩⟩⟩⟩⟩⟩⟩⟩⟩⟩⟩⟩⟩⟩⟩⟩⟩⟩ ?_
   exact an<|qH<|cF<|so h▸cM J J J
 ·refine O<|bl J<|aK J<|fz h J (fun h=>?_) (fun h=>?_)
  ·refine aw J<|Z J<|bR h fun l q_l h=>bA bH J J J J eh J J (D J) (D J) q_l fun l1 c=>Z J<|bR h fun out q_out h=>bA bH J J J J eh J J (D J) (D J) q_out fun l2 c1=>aK J<|aw J<|aU sN lX hY J<|Z J<|ed<|cR 80 J<|cR 8 J<|cR 81 J<|cR 84 J<|bR h fun r q_ h=>?_;exact X (cC aaH (Sh _ _ q_) ⟨(D J),(mY (D J)),aV⟩)<|dM J<|ba J<|cF<|fa 6 J<|aF<|so h▸cM J J J
  ·refine O<|bl J<|aK J<|fz h J (fun h=>?_) (fun h=>?_)
   ·exact aw J<|aU sN lX hY J<|Z J<|ej h aaH (Sh _ _) (co J) fun r1 h=>dM J<|ba J<|cF<|aF<|so h▸cM J J J
   ·refine O<|bl J<|aK J<|fz h J (fun h=>?_) (fun h=>?_)
    ·refine aN<|bP<|bC<|ak<|bK ?_;refine aM (ww (aH:=fun n2 n' l3 c2 i1=>na n a1 n2 n' i1=some R) (Of:=fun n' l3 c2 i1=>[d5 cj 3 l3 c2 n']) (Gf:=fun n' l3 c2 i1=>[(1,lk a1),(3,da aQ n),(8,oI l3 c2 n'),(9,fU true),(11,bI i1)]) (fun n' l3 c2 i1 h=>nn h) (fun n2 ih1 n' l3 c2 i1 h=>?_) de y6 none 0 0 h) (aX J);refine cy<|aN<|Z J<|aU kp fv cV J<|bX eh J<|im J<|bV h J (fun h=>?_) (fun h=>?_)
     ·refine fy<|aS<|ak<|aN<|aU kp fv cV J<|Z J<|bR h fun e2 I_ h=>eE eh bH J I_<|X (eC (D J) hI)<|Z J<|aB J (bu kp fv J J)<|aB J (bp cV J J)<|aB J (ca J)<|aB J (fun Y=>dV eh bH J (bg J Y) (bg J Y) I_)<|aB J (bp bH J J)<|aB J (ca J)<|aB J (hM eh J)<|aB J (fun Y=>d9 (bg J Y) (bg J Y))<|dG J ?_;refine bV h J (fun h=>?_) (fun h=>?_)
      ·exact O<|fb cj<|bo<|bF<|ae<|cF<|ae<|cF<|cF<|aF<|so h▸cM J J J
      ·refine fy<|ai<|Z J<|Z J<|aU kp fv cV J<|Z J<|eE eh bH J I_<|bR h fun e3 H_ h=>eE eh bH J H_<|X (aT (r:=cj) (ys:=[e3]) (xs:=[.tmp 126]) eh bH J J J J J ⟨(D J),aV⟩)<|bR h fun V' m_ h=>bA bH J J J J eh J J (D J) (D J) m_ fun l4 c3=>dM J<|aJ<|ah<|an<|ai<|Z J<|X (cU (D J) hI)<|dM J ?_;refine aJ ?_;exact aY (aM (ih1 V' l4 c3 (i64.wrap (i1+1)) h) (aX J))
     ·refine cL<|am<|am<|bL<|an<|aN<|bP<|bC<|ak<|bK ?_;refine aM (uF (aH:=fun n3 y_ l5 c4 ok1 i2=>m9 n a1 n3 y_ ok1 i2=some R) (Of:=fun y_ l5 c4 ok1 i2=>[d5 cj 3 l5 c4 y_]) (Gf:=fun y_ l5 c4 ok1 i2=>[(1,lk a1),(3,da aQ n),(8,oI l5 c4 y_),(9,fU ok1),(12,bI i2)]) (fun y_ l5 c4 ok1 i2 h=>nn h) (fun n3 ih2 y_ l5 c4 ok1 i2 h=>?_) de n' l3 c2 true 0 h) (aX J);refine cy<|aN<|Z J<|aU iS d6 qT J<|bX ny J<|im J<|bV h J (fun h=>?_) (fun h=>?_)
      ·refine fy<|aS<|ak<|O<|aU iS d6 qT J<|Z J<|bR h fun e4 O_ h=>eE ny jt J O_<|Z J<|ej h aez (Zh _ _) (co J) fun r2 h=>Z J<|dJ J J<|dJ J J<|dM J<|aK J<|O ?_;refine Z J<|Z J<|X (aT (r:=cj) (ys:=[r2.1]) (xs:=[.tmp 147]) eh bH J J J J J ⟨(D J),aV⟩)<|bR h fun A_ R_ h=>bA bH J J J J eh J J (D J) (D J) R_ fun l6 c5=>aK J<|ai<|Z J<|Z J<|ac J (ca J)<|cm J<|dM J<|aJ<|ah<|an<|ai<|Z J<|X (cU (D J) hI)<|dM J<|aJ ?_;exact aY (aM (ih2 A_ l6 c5 (ok1&&r2.2) (i64.wrap (i2+1)) h) (aX J))
      ·refine cL<|am<|am<|bL<|an<|aw J<|Z J<|Z J<|ac J (bu kp fv J J)<|ac J (bp cV J J)<|ac J (hM eh J)<|ac J (fun Y=>ft (bg J Y) hI)<|cm J<|Z J<|ac J (bu iS d6 J J)<|ac J (bp qT J J)<|ac J (hM ny J)<|ac J (fun Y=>ft (bg J Y) hI)<|cm J<|Z J<|ac J (ca J)<|ac J (fun Y=>jg eh (.head _) (bg J Y)) ?_;exact ac J (fun Y=>d8 (bg J Y) hI)<|cm J<|dM J<|ba J<|cF<|dE<|bS 8 J<|bS 154 J<|bS 6 J<|fa 6 J<|aF<|so h▸cM J J J
    ·refine O<|bl J<|aK J<|fz h J (fun h=>?_) (fun h=>?_)
     ·refine aN<|bP<|bC<|ak<|bK ?_;refine aM (uF (aH:=fun n4 D_ l7 c6 ok2 i3=>m8 n a1 n4 D_ ok2 i3=some R) (Of:=fun D_ l7 c6 ok2 i3=>[d5 cj 3 l7 c6 D_]) (Gf:=fun D_ l7 c6 ok2 i3=>[(1,lk a1),(3,da aQ n),(8,oI l7 c6 D_),(9,fU ok2),(15,bI i3)]) (fun D_ l7 c6 ok2 i3 h=>nn h) (fun n4 ih3 D_ l7 c6 ok2 i3 h=>?_) de y6 none 0 true 0 h) (aX J);refine cy<|aN<|Z J<|aU sM lW Cf J<|bX uL J<|im J<|bV h J (fun h=>?_) (fun h=>?_)
      ·refine fy<|aS<|ak<|O<|aU sM lW Cf J<|Z J<|bR h fun e5 q_e5 h=>eE uL hY J q_e5<|Z J<|ej h Xa (LV _ _) (co J) fun r3 h=>Z J<|dJ J J<|dJ J J<|dM J<|aK J<|O ?_;refine Z J<|Z J<|X (aT (r:=cj) (ys:=[r3.1]) (xs:=[.tmp 193]) eh bH J J J J J ⟨(D J),aV⟩)<|bR h fun out6 q_out6 h=>bA bH J J J J eh J J (D J) (D J) q_out6 fun l8 c7=>aK J<|ai<|Z J<|Z J<|ac J (ca J)<|ac J (iq J)<|cm J<|dM J<|aJ<|ah<|an<|ai<|Z J<|X (cU (D J) hI)<|dM J<|aJ ?_;exact aY (aM (ih3 out6 l8 c7 (ok2&&(r3.2==0)) (i64.wrap (i3+1)) h) (aX J))
      ·refine cL<|am<|am<|bL<|an<|aw J<|Z J<|Z J<|ac J (ca J)<|ac J (fun Y=>jg eh (.head _) (bg J Y))<|ac J (fun Y=>d9 (bg J Y) hI)<|cm J<|Z J<|ac J (ca J)<|ac J (fun Y=>jg eh (.head _) (bg J Y))<|ac J (fun Y=>ft (bg J Y) hI)<|cm J<|dM J<|ba J ?_;exact cF<|dE<|bS 8 J<|bS 201 J<|bS 6 J<|fa 6 J<|aF<|so h▸cM J J J
     ·refine O<|bl J<|aK J<|fz h J (fun h=>?_) (fun h=>?_)
      ·exact aw J<|dM J<|bo<|bF<|cF<|aF<|so h▸cM J J J
      ·refine O<|bl J<|aK J<|fz h J (fun h=>?_) (fun h=>?_)
       ·refine aN<|Z J<|bX eh J<|Z J<|bX eh J<|X (dc (D J) (D J))<|bV h J (fun h=>?_) (fun h=>?_)
        ·exact O<|fb cj<|bo<|bF<|ae<|cF<|aF<|so h▸cM J J J
        ·refine fy<|aN<|bP<|bC<|ak<|bJ (k:=1) J fun hN=>bK ?_;refine aM (Bu (aH:=fun ls i4 z_ l9 c8 ok3=>(a1.drop i4=ls)/\jW b ls i4 z_ ok3=some R) (Of:=fun _ i4 z_ l9 c8 ok3=>[d5 cj 3 l9 c8 z_]) (Gf:=fun _ i4 z_ l9 c8 ok3=>[(1,lk a1),(2,lk b),(8,oI l9 c8 z_),(9,fU ok3),(18,bI (i4:Int))]) (fun i4 z_ l9 c8 ok3 h=>?_) (fun e6 tl ih4 i4 z_ l9 c8 ok3 h=>?_) a1 0 y6 none 0 true ⟨J,h⟩) (aX J)
         ·obtain⟨K,h⟩:=h;refine JK eh K J<|an<|aw J<|Z J<|dM J<|aK J ?_;exact qH<|cF<|dE<|bS 8 J<|bS 259 J<|bS 6 J<|fa 6 J<|aF<|so h▸cM J J J
         ·obtain⟨K,h⟩:=h;refine JJ eh K J<|aS<|ak<|aw J<|Z J<|eE eh bH J (fh K)<|aK J ?_;refine dP (aH:=fun k=>rh b (jW b tl) i4 z_ ok3 k=some R) (Of:=fun k=>[d5 cj 3 l9 c8 z_]) (Gf:=fun k=>[(1,lk a1),(2,lk b),(8,oI l9 c8 z_),(9,fU ok3),(18,bI (i4:Int)),(19,bI k)]) (fun k h=>?_) (fun hx=>?_)
          ·skip;refine aw J<|Z J<|X (aT (r:=cj) (ys:=[k]) (xs:=[.tmp 240]) eh bH J J J J J ⟨(D J),aV⟩)<|bR h fun out8 q_out8 h=>bA bH J J J J eh J J (D J) (D J) q_out8 fun l10 c9=>aK J<|ai<|Z J<|Z J<|bR h fun t2 q_t2 h=>ac J (ca J)<|ac J (ca J) ?_;obtain⟨e7,h1t2,h0t2⟩:=og q_t2;have q_e7g:=fun V=>(h1t2 V).1;refine ac J (fun Y=>dV eh bH J (bg J Y) (bg J Y) (q_e7g Y))<|ac J (bp bH J J)<|ac J (ca J)<|ac J (fun Y=>dW (bg J Y) (bg J Y))<|ac J (ov J) ?_;obtain⟨t3,h1t2⟩:=og2 (fun V=>(h1t2 V).2);have q_t3g:=fun V=>(h1t2 V).1;refine cO J J J J (fun Y=>ki J)<|cO J J J J (fun Y=>ki J) ?_;obtain⟨e8,h1t3,h0t3⟩:=og3 q_t3g;have q_e8g:=fun V=>(h1t3 V).1;refine cO J J J J (fun Y=>dV eh bH J (bg J Y) (bg J Y) (q_e8g Y))<|cO J J J J (fun Y=>fC bH J J (bg J Y))<|cO J J J J (fun Y=>dW (bg J Y) hI)<|ac J (fun Y=>iQ (bg J Y) (fun V=>(bg J (ub Y (sL V)))) (fun V=>(h1t3 (ub Y V)).2) (fun V=>h0t3 Y V))<|X (cw (D J) (fun V=>(bg J V)) (fun V=>(h1t2 V).2) h0t2)<|dM J<|aJ<|GX K hN J ?_;exact aY (aM (ih4 (i4+1) out8 l10 c9 t2 ⟨ei K,h⟩) (aX J))
          ·skip;refine aw J<|bl J<|bV h J (fun h=>?_) (fun h=>?_)
           ·refine ai<|Z J<|Z J<|bR h fun e9 q_e9 h=>eE eh bH J q_e9<|dM J<|aJ ?_;exact bE (hx e9 h) (aX J)
           ·refine aW ?_;exact bE (hx e6 h) (aX J)
       ·refine aW<|ah<|an<|aN<|bP<|bC<|ak<|bK<|oG ?_;refine aM (z6 (aH:=fun n5 ok4 i5=>jV n a1 n5 ok4 i5=some R) (Of:=fun ok4 i5=>[]) (Gf:=fun ok4 i5=>[(1,lk a1),(3,da aQ n),(9,fU ok4),(20,bI i5)]) (fun ok4 i5 h=>nn h) (fun n5 ih5 ok4 i5 h=>?_) de true 0 h) (aX J);refine cy<|aN<|Z J<|aU ky gp wM J<|bX uM J<|im J<|bV h J (fun h=>?_) (fun h=>?_)
        ·refine fy<|aS<|ak<|ai<|Z J<|Z J<|bR h fun t4 q_t4 h=>ac J (bu ky gp J J)<|ac J (bp wM J J)<|ac J (ca J) ?_;obtain⟨e10,h1t4,h0t4⟩:=og q_t4;have q_e10g:=fun V=>(h1t4 V).1;refine ac J (fun Y=>dV uM qY J (bg J Y) (bg J Y) (q_e10g Y))<|ac J (fun Y=>eg Et J yS J (bg J Y))<|ac J (bp bH J J)<|ac J (fun Y=>d9 (bg J Y) hI)<|X (cw (D J) (fun V=>(bg J V)) (fun V=>(h1t4 V).2) h0t4)<|Z J<|bR h fun t5 q_t5 h=>ac J (bu ky gp J J)<|ac J (bp wM J J)<|ac J (ca J) ?_;obtain⟨e11,h1t5,h0t5⟩:=og q_t5;have q_e11g:=fun V=>(h1t5 V).1;refine ac J (fun Y=>dV uM qY J (bg J Y) (bg J Y) (q_e11g Y))<|ac J (fun Y=>eg Et J yS J (bg J Y))<|ac J (bp bH J J)<|ac J (ca J)<|ac J (hM eh J)<|ac J (fun Y=>eC (bg J Y) (bg J Y))<|X (cw (D J) (fun V=>(bg J V)) (fun V=>(h1t5 V).2) h0t5)<|dM J<|aJ<|ah<|an<|ai<|Z J<|X (cU (D J) hI)<|dM J<|aJ ?_;exact aY (aM (ih5 t5 (i64.wrap (i5+1)) h) (aX J))
        ·refine cL<|am<|am<|bL<|an<|aS ?_;refine ga (ts:=[_,_,_,_,_,_,_,_,_,_,_,_,_,_,_,_,_,_,_,_]) mixed J J
          ⟨fc J J,
          ⟨fc J J,
          ⟨eS 290 1 J J (ki J),
          ⟨te 3 291 2 J J J (eZ J J J J (fun Y=>sP ky gp J J)),
          ⟨iX 292 3 291 2 J J J (eZ J J J J (fun Y=>fC wM J J (bg J Y))),
          ⟨iX 293 4 291 2 J J J (eZ J J J J (fun Y=>fK uM (bg J Y))),
          ⟨iX 294 5 291 2 J J J (eZ J J J J (fun Y=>ft (bg J Y) hI)),
          ⟨fR 291 2 295 6 J J J (UK J J),
          ⟨eS 296 7 J J (ki J),
          ⟨te 3 297 8 J J J (eZ J J J J (fun Y=>sP sk lD J J)),
          ⟨iX 298 9 297 8 J J J (eZ J J J J (fun Y=>fC bH J J (bg J Y))),
          ⟨iX 299 10 297 8 J J J (eZ J J J J (fun Y=>d9 (bg J Y) hI)),
          ⟨fR 297 8 300 11 J J J (UK J J),
          ⟨eS 301 12 J J (ki J),
          ⟨te 3 302 13 J J J (eZ J J J J (fun Y=>sP sk lD J J)),
          ⟨iX 303 14 302 13 J J J (eZ J J J J (fun Y=>fC bH J J (bg J Y))),
          ⟨iX 304 15 302 13 J J J (eZ J J J J (fun Y=>ft (bg J Y) hI)),
          ⟨fR 302 13 305 16 J J J (UK J J),
          ⟨eS 289 0 J J (CO J),
          ⟨eS 306 17 J J (CO J),
          aV⟩⟩⟩⟩⟩⟩⟩⟩⟩⟩⟩⟩⟩⟩⟩⟩⟩⟩⟩⟩ ?_
         exact an<|qH<|so h▸cM J J J
def WG: ∀(fu:Nat) (l:fx) (M':Int) {R:(List Int)×Bool} (h:ib fu l M'=some R),dk bt 135 [tD m5 l,bI M'] (tT [lk R.1,fU R.2]):=by
 intro fu
 induction fu with
 |zero=>intro l M' R h;exact(nn h).elim
 |succ fu ihR=>
  intro l M' R h;refine dX func135 J<|O<|eH J<|fb cj<|bo<|bC<|aN<|eb IY J<|Z J<|ej h SB (Zu _ _) (co J) fun r h=>bl J<|Z J<|bR h fun t u_ h=>aB J (bu qC om J J)<|aB J (bp sE J J)<|aB J (ca J) ?_;obtain⟨e,h_,v_⟩:=og u_;have q_eg:=fun V=>(h_ V).1;refine aB J (fun Y=>dV mn dL J (bg J Y) (bg J Y) (q_eg Y))<|aB J (bp dL J J) ?_;obtain⟨r1,h_⟩:=og2 (fun V=>(h_ V).2);have k_:=fun V=>(h_ V).1;refine aB J (fun Y=>cC SD (GJ _ (k_ Y)) ⟨(bg J Y),aV⟩)<|aB J (nt J)<|X (iQ (D J) (fun V=>(bg J (sL V))) (fun V=>(h_ V).2) v_)<|bV h J (fun h=>?_) (fun h=>?_)
  ·exact O<|fb cj<|bo<|bF<|ae<|so h▸cM J J J
  ·refine fy<|O<|aU qC om sE J<|Z J<|bR h fun e1 Z' h=>eE mn dL J Z'<|bD dL jd J fun b=>be dL aq J<|bj 6 J<|bC<|O<|fb cj<|fb cj<|bC ?_;refine dP (aH:=fun a1=>nc (ib fu) l M' e1 a1=some R) (Of:=fun a1=>[]) (Gf:=fun a1=>[(1,bI M'),(2,da m5 l),(6,da aQ e1),(7,lk a1),(8,lk ([]))]) (fun a1 h=>?_) (fun hx=>?_)
   ·skip;refine dP (aH:=fun b1=>lx l M' e1 a1 b1=some R) (Of:=fun b1=>[]) (Gf:=fun b1=>[(1,bI M'),(2,da m5 l),(6,da aQ e1),(7,lk a1),(8,lk b1)]) (fun b1 h=>?_) (fun K1=>?_)
    ·skip;refine O<|eb dL J<|Z J<|Z J<|ej h aeT (Zt _ _ _) (co J) fun r2 h=>Z J<|dJ J J<|dJ J J<|dM J<|aK J<|aN<|aU gq db bH J<|bl J<|Z J<|ac J (ca J)<|ac J (bu qC om J J)<|ac J (bp sE J J) ?_;refine ac J (hM mn J)<|ac J (fun Y=>ec (bg J Y) hI)<|ac J (fun Y=>dc (bg J Y) (bg J Y))<|cm J<|Z J<|aB J (ca J)<|aB J (hM eh J)<|aB J (fun Y=>d8 (bg J Y) hI)<|dG J<|bV h J (fun h=>?_) (fun h=>?_)
     ·exact O<|fb cj<|bo<|bF<|ae<|so h▸cM J J J
     ·exact fy<|aw J<|Z J<|dM J<|ba J<|so h▸cM J J J
    ·skip;refine O<|aU kV iR bH J<|X (d9 (D J) hI)<|bV h J (fun h=>?_) (fun h=>?_)
     ·refine O<|eb IY J<|aU kV iR bH J<|ej h Xf (ihR _ _) (co J) fun r3 h=>Z J<|dJ J J<|dJ J J<|dM J<|aK J<|aN<|Z J<|X (fq (D J))<|bV h J (fun h=>?_) (fun h=>?_)
      ·exact O<|fb cj<|bo<|bF<|ae<|ae<|so h▸cM J J J
      ·refine fy<|ai<|Z J<|dM J<|aJ ?_;exact bE (K1 r3.1 h) (aX J)
     ·refine aW ?_;exact bE (K1 ([]) h) (aX J)
   ·skip;refine O<|aU jP gH bH J<|X (d9 (D J) hI)<|bV h J (fun h=>?_) (fun h=>?_)
    ·refine O<|eb IY J<|aU jP gH bH J<|ej h Xf (ihR _ _) (co J) fun r4 h=>Z J<|dJ J J<|dJ J J<|dM J<|aK J<|aN<|Z J<|X (fq (D J))<|bV h J (fun h=>?_) (fun h=>?_)
     ·exact O<|fb cj<|bo<|bF<|ae<|ae<|so h▸cM J J J
     ·refine fy<|ai<|Z J<|dM J<|aJ ?_;exact bE (hx r4.1 h) (aX J)
    ·refine aW ?_;exact bE (hx ([]) h) (aX J)
def ZJ l M'{R}(h:pb l M'=some R):dk bt 135 [tD m5 l,bI M'] (tT [lk R.1,fU R.2]):=WG de l M' h
