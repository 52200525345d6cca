import Derived.Test.YtdohlidddcgfjaaGreatFgT
import Derived.Test.YtdohlidddcgfjaaGreatFgP11
set_option linter.all false
namespace Go.Proofs.YtdohlidddcgfjaaGreat
open Go IntKind Tryz
set_option maxRecDepth 100000
def ab7 a1 b{R}(h:rO a1 b=some R):dk bt 33 [tD cQ a1,tD cQ b] (fU R):=by
 refine dX func33 J<|O<|eH J<|eH J<|bo<|bC<|aN<|aU Bi pe bH J<|aU Bi pe bH J<|X (dc (D J) (D J))<|Z J<|aB J (bu zO pd J J)<|aB J (bp sF J J)<|aB J (bu zO pd J J)<|aB J (bp sF J J)<|aB J (fun Y=>dc (bg J Y) (bg J Y))<|dG J<|Z J ?_;refine aB J (bu tv ji J J)<|aB J (bp kG J J)<|aB J (bu tv ji J J)<|aB J (bp kG J J)<|aB J (fun Y=>dc (bg J Y) (bg J Y))<|dG J<|Z J<|aB J (bu u0 lC J J)<|aB J (bp kG J J)<|aB J (bu u0 lC J J)<|aB J (bp kG J J)<|aB J (fun Y=>dc (bg J Y) (bg J Y))<|dG J<|bV h J (fun h=>?_) (fun h=>?_)
 ·exact O<|bo<|bF<|ae<|so h▸aC J J
 ·refine fy<|O<|qX jQ dK J<|aU tw kT ua J<|qX jQ dK J<|aU tw kT ua J<|X (D7 KK (D J) (D J))<|Z J<|ac J (bu jQ dK J J)<|ac J (fun Y=>eg uy J lY J (bg J Y))<|ac J (bp kG J J)<|ac J (bu jQ dK J J)<|ac J (fun Y=>eg uy J lY J (bg J Y))<|ac J (bp kG J J)<|ac J (fun Y=>dW (bg J Y) (bg J Y))<|cm J<|Z J<|bR h fun t u_ h=>ac J (bu jQ dK J J)<|ac J (fun Y=>eg uz J lZ J (bg J Y)) ?_;refine ac J (bp DD J J)<|ac J (bu jQ dK J J)<|ac J (fun Y=>eg uz J lZ J (bg J Y))<|ac J (bp DD J J) ?_;obtain⟨r,h_,v_⟩:=og u_;have x_:=fun V=>(h_ V).1;exact ac J (fun Y=>cC agb (abM _ _ (x_ Y)) ⟨(bg J Y),(bg J Y),aV⟩)<|X (cw (D J) (fun V=>(bg J V)) (fun V=>(h_ V).2) v_)<|ba J<|so h▸aC J J
def Fi a1 b{R}(h:kN a1 b=some R):dk bt 15 [tD ew a1,tD ew b] (fU R):=by
 refine dX func15 J<|O<|eH J<|eH J<|bo<|bC<|aN<|aU rG nU bH J<|aU rG nU bH J<|X (dc (D J) (D J))<|Z J<|aB J (bu vT s0 J J)<|aB J (bp bH J J)<|aB J (bu vT s0 J J)<|aB J (bp bH J J)<|aB J (fun Y=>dc (bg J Y) (bg J Y))<|dG J<|Z J ?_;refine aB J (bu vS sZ J J)<|aB J (bp bH J J)<|aB J (bu vS sZ J J)<|aB J (bp bH J J)<|aB J (fun Y=>dc (bg J Y) (bg J Y))<|dG J<|Z J<|aB J (bu uZ rA J J)<|aB J (bp bH J J)<|aB J (bu uZ rA J J)<|aB J (bp bH J J)<|aB J (fun Y=>dc (bg J Y) (bg J Y))<|dG J<|Z J<|aB J (bu qE pT J J)<|aB J (bp bH J J)<|aB J (bu qE pT J J)<|aB J (bp bH J J)<|aB J (fun Y=>dc (bg J Y) (bg J Y))<|dG J<|Z J<|aB J (bu tu rz J J)<|aB J (bp bH J J)<|aB J (bu tu rz J J) ?_;refine aB J (bp bH J J)<|aB J (fun Y=>dc (bg J Y) (bg J Y))<|dG J<|Z J<|aB J (bu rE rx J J)<|aB J (bp wa J J)<|aB J (bu rE rx J J)<|aB J (bp wa J J)<|aB J (fun Y=>dc (bg J Y) (bg J Y))<|dG J<|bV h J (fun h=>?_) (fun h=>?_)
 ·exact O<|bo<|bF<|ae<|so h▸aC J J
 ·refine fy<|O<|aU rF ry mX J<|aU rF ry mX J<|ej h agH (ab7 _ _) (co J) fun r h=>Z J<|bR h fun t u_ h=>ac J (bu ux uw J J)<|ac J (bp AF J J)<|ac J (bu ux uw J J)<|ac J (bp AF J J) ?_;obtain⟨r1,h_,v_⟩:=og u_;have k_:=fun V=>(h_ V).1;exact ac J (fun Y=>cC agN (acf _ _ (k_ Y)) ⟨(bg J Y),(bg J Y),aV⟩)<|X (cw (D J) (fun V=>(bg J V)) (fun V=>(h_ V).2) v_)<|ba J<|so h▸aC J J
def LQ l{R}(h:pY l=some R):jI bt 46 [lk l] false (rI .u8) 5 R:=by
 refine jI.of func46 J J J fun w0 S0=>O<|cn false (rI .u8) 5<|X (cg vk)<|bC<|aw J<|bX eh J<|X (cT jm ln (D J))<|iU (r:=(rI .u8)) (ys:=[(u8.wrap (l.length:Int))]) (xs:=[.tmp 7]) gV iV J J J J J ⟨(D J),aV⟩ J fun l1 c=>aK J<|aN<|bP<|bC<|ak<|bJ (k:=0) J fun hN=>?_;refine bK<|fT<|oG ?_;refine aM (nX (aH:=fun ls i out l2 c1=>(l.drop i=ls)/\mK ls out=some R) (Of:=fun _ i out l2 c1=>[d5 (rI .u8) 5 l2 c1 out]) (Gf:=fun _ i out l2 c1=>[(0,lk l),(3,oI l2 c1 out),(4,bI (i:Int))]) (fun i out l2 c1 h=>?_) (fun e tl ih i out l2 c1 h=>?_) l 0 ([(u8.wrap (l.length:Int))]) l1 c ⟨J,h⟩) (aX J)
 ·obtain⟨K,h⟩:=h;exact JK eh K J<|an<|aw J<|ba J<|so h▸gu J J
 ·obtain⟨K,h⟩:=h;refine JJ eh K J<|aS<|ak<|ai<|Z J<|Z J<|Z J<|eE eh bH J (fh K)<|X (cT jm ln (D J))<|X (aT (r:=(rI .u8)) (ys:=[(u8.wrap e)]) (xs:=[.tmp 20]) gV iV J J J J J ⟨(D J),aV⟩)<|bR h fun n' X' h=>?_;refine bA iV J J J J gV J J (D J) (D J) X' fun l3 c2=>dM J<|aJ<|GX K hN J ?_;exact aY (aM (ih (i+1) n' l3 c2 ⟨ei K,h⟩) (aX J))
def xY n width{R}(h:gW n width=some R):jI bt 35 [tD mp n,bI width] false (rI .u8) 5 R:=by
 refine jI.of func35 J J J fun w0 S0=>O<|cn false (rI .u8) 5<|X (cg vk)<|bC<|O<|cn false (rI .u8) 5<|X (cg vk)<|bC<|aN<|bP<|bC<|ak<|bK<|fT<|oG ?_;refine aM (uF (aH:=fun n2 out l c n1 i=>nF width n2 out n1 i=some R) (Of:=fun out l c n1 i=>[d5 (rI .u8) 5 l c out]) (Gf:=fun out l c n1 i=>[(0,tD mp n1),(1,bI width),(5,oI l c out),(6,bI i)]) (fun out l c n1 i h=>nn h) (fun n2 ih out l c n1 i h=>?_) de y6 none 0 n 0 h) (aX J);refine cy<|aN<|Z J<|Z J<|im J<|bV h J (fun h=>?_) (fun h=>?_)
 ·refine fy<|aS<|ak<|aw J<|X (HJ (D J) hI (by decide))<|X (cT wG ln (D J))<|iU (r:=(rI .u8)) (ys:=[(u8.wrap ((n1).tmod 256))]) (xs:=[.tmp 14]) gV iV J J J J J ⟨(D J),aV⟩ J fun l1 c1=>Z J<|bf<|ed<|cR 5 J<|cR 16 J<|bf<|bR h fun n' X' h=>bA iV J J J J gV J J (D J) (mY (D J)) X' fun l2 c2=>aK J<|ai<|Z J<|X (C3 (D J) hI (by decide)) ?_;refine dM J<|aJ<|ah<|an<|ai<|Z J<|X (cU (D J) hI)<|dM J<|aJ<|ap<|aF ?_;exact aY (aM (ih n' l2 c2 (u64.wrap ((n1).tdiv 256)) (i64.wrap (i+1)) h) (aX J))
 ·exact cL<|am<|am<|bL<|an<|aw J<|ba J<|so h▸gu J J
def LR is1{R}(h:uQ is1=some R):dk bt 36 [fU is1] (tD (rI .u8) R):=by
 refine dX func36 J<|O<|bP<|bC<|aN<|Z J<|bV h J (fun h=>?_) (fun h=>?_)
 ·exact O<|ea<|ae<|so h▸aC J J
 ·exact fy<|O<|ea<|so h▸aC J J
def Ie n{R}(h:py n=some R):jI bt 162 [tD mp n] false (rI .u8) 5 R:=by
 refine jI.of func162 J J J fun w0 S0=>O<|cn false (rI .u8) 5<|X (cg vk)<|bC<|O<|cn false (rI .u8) 5<|X (cg vk)<|bC<|aN<|bP<|bC<|ak<|bK<|fT<|oG ?_;refine aM (ww (aH:=fun n1 out l c i=>nH n n1 out i=some R) (Of:=fun out l c i=>[d5 (rI .u8) 5 l c out]) (Gf:=fun out l c i=>[(0,tD mp n),(3,oI l c out),(4,bI i)]) (fun out l c i h=>nn h) (fun n1 ih out l c i h=>?_) de y6 none 0 7 h) (aX J);refine cy<|aN<|Z J<|X (d9 (D J) hI)<|bV h J (fun h=>?_) (fun h=>?_)
 ·refine fy<|aS<|ak<|ai<|Z J<|Z J<|Z J<|X (HK hI (D J))<|bR h fun u q_u h=>X (Lz (D J) (D J) (Wg q_u))<|X (cT wG ln (D J))<|X (aT (r:=(rI .u8)) (ys:=[(u8.wrap ((n).fdiv (2^(min (Int.toNat (i64.wrap (8*i))) u64.bits))))]) (xs:=[.tmp 14]) gV iV J J J J J ⟨(D J),aV⟩)<|bR h fun n' X' h=>bA iV J J J J gV J J (D J) (D J) X' fun l1 c1=>dM J<|aJ<|ah<|an<|ai<|Z J<|X (ec (D J) hI)<|dM J<|aJ ?_;exact aY (aM (ih n' l1 c1 (i64.wrap (i-1)) h) (aX J))
 ·exact cL<|am<|am<|bL<|an<|aw J<|ba J<|so h▸gu J J
def Zy n{R}(h:py n=some R):dk bt 162 [tD mp n] (ek ((rI .u8)) R):=(Ie _ h).spec
def Ox v{R}(h:vz v=some R):jI bt 124 [tD bh v] false (rI .u8) 5 R:=by
 refine jI.of func124 J J J fun w0 S0=>O<|eH J<|cn false (rI .u8) 5<|X (cg vk)<|bC<|O<|aU oC kS bH J<|X (cT jm ln (D J))<|iU (r:=(rI .u8)) (ys:=[(u8.wrap v.Kind)]) (xs:=[.tmp 6]) gV iV J J J J J ⟨(D J),aV⟩ J fun l c=>aK J<|aN<|aU oC kS bH J<|bC ?_;refine ak<|O<|bl J<|aK J<|fz h J (fun h=>?_) (fun h=>?_)
 ·exact ai<|Z J<|aU oB pC M2 J<|X (cT Cm ln (D J))<|X (aT (r:=(rI .u8)) (ys:=[(u8.wrap v.N)]) (xs:=[.tmp 15]) gV iV J J J J J ⟨(D J),aV⟩)<|bR h fun out q_out h=>bA iV J J J J gV J J (D J) (D J) q_out fun l1 c1=>dM J<|aJ<|ah<|an<|aw J<|ba J<|so h▸gu J J
 ·refine O<|bl J<|aK J<|fz h J (fun h=>?_) (fun h=>?_)
  ·exact ai<|Z J<|aU oB pC M2 J<|X (cT Cm wG (D J))<|lp h Xb (Ie _) (co J) fun r h l2 c2=>ed<|cR 24 J<|bf<|bR h fun n' X' h=>bA iV J J J J gV J J (D J) (mY (D J)) X' fun l3 c3=>dM J<|aJ<|ah<|an<|aw J<|ba J<|so h▸gu J J
  ·refine O<|bl J<|aK J<|fz h J (fun h=>?_) (fun h=>?_)
   ·refine bR h fun l4 q_l4 h=>?_;refine jK 9 [tc (Q (aI l c (([(u8.wrap v.Kind)]).length))),tc (da rS v.S),tc (tD rS v.S),tc (mR v.S),tc (tD (rI .u8) (u8.wrap (v.S.length:Int))),tc (ek ((rI .u8)) ([(u8.wrap (v.S.length:Int))])),([6],fun bx=>Q (aI ((bx.getD 0 fe).h 0).1 ((bx.getD 0 fe).h 0).2 l4.length)),tc (da rS v.S),tc (tD rS v.S)] [false,false,false,false,false,false,true,false,false] [fun _=>[d5 (rI .u8) 5 l c ([(u8.wrap v.Kind)]),d5 (rI .u8) 5 none 0 y6],fun sg=>[d5 (rI .u8) 5 ((sg 6).h 0).1 ((sg 6).h 0).2 l4,d5 (rI .u8) 5 none 0 y6]] J mixed J J J J J
     ⟨⟨[⟨3,fun _=>Q (aI l c (([(u8.wrap v.Kind)]).length)),none⟩],_,0,0,J,⟨(fun _=>J),aV⟩,J,J,J,J,J,fun _ sg _ _=>af J (ki J)⟩,
     ⟨⟨[⟨1,fun _=>da bh v,none⟩],_,0,0,J,⟨(fun _=>J),aV⟩,J,J,J,J,J,fun _ sg _ _=>af J (sP vl ru J J)⟩,
     ⟨⟨[⟨29,fun _=>da rS v.S,some 1⟩],_,0,0,J,⟨(fun _=>J),aV⟩,J,J,J,J,J,fun _ sg _ _=>af J (CM Vk J J)⟩,
     ⟨⟨[⟨30,fun _=>tD rS v.S,some 2⟩],_,0,0,J,⟨(fun _=>J),aV⟩,J,J,J,J,J,fun _ sg _ _=>af J (LC Dy (D J))⟩,
     ⟨⟨[⟨31,fun _=>tD cj (v.S.length:Int),some 3⟩],_,0,0,J,⟨(fun _=>J),aV⟩,J,J,J,J,J,fun _ sg _ _=>af J (cT jm ln (D J))⟩,
     ⟨⟨[⟨32,fun _=>tD (rI .u8) (u8.wrap (v.S.length:Int)),some 4⟩],_,0,0,J,⟨(fun _=>J),aV⟩,J,J,J,J,J,fun _ sg _ _=>af J (aT (r:=(rI .u8)) (ys:=[(u8.wrap (v.S.length:Int))]) (xs:=[.tmp 32]) gV iV J J J J J ⟨(D J),aV⟩)⟩,
     ⟨⟨[⟨28,fun _=>Q (aI l c (([(u8.wrap v.Kind)]).length)),some 0⟩,⟨33,fun _=>tD KN ([(u8.wrap (v.S.length:Int))]),some 5⟩],_,J,⟨(fun _=>J),(fun _=>J),aV⟩,J,J,J,fun sg=>cG J (vH iV J J J J gV J (D J) (D J) q_l4)⟩,
     ⟨⟨[⟨1,fun _=>da bh v,none⟩],_,0,1,J,⟨(fun _=>J),aV⟩,J,J,J,J,J,fun _ sg _ _=>af J (sP vl ru J J)⟩,
     ⟨⟨[⟨35,fun _=>da rS v.S,some 7⟩],_,0,1,J,⟨(fun _=>J),aV⟩,J,J,J,J,J,fun _ sg _ _=>af J (CM Vk J J)⟩,
     aV⟩⟩⟩⟩⟩⟩⟩⟩⟩ (fun sg=>?_)
    refine(show RG _ _ _ _ [_,_] _ from ?_);exact bR h fun V' m_ h=>Rc iV J J gV Dy J (D J) (D J) m_ fun l5 c4=>dM J<|aJ<|ah<|an<|aw J<|ba J<|so h▸gu J J
   ·refine O<|bl J<|aK J<|fz h J (fun h=>?_) (fun h=>?_)
    ·refine bR h fun r1 I' h=>bR h fun l6 q_l6 h=>?_;refine jK 8 [tc (Q (aI l c (([(u8.wrap v.Kind)]).length))),tc (da cj v.N),tc (bI v.N),tc (tD mp (u64.wrap v.N)),tc (ek ((rI .u8)) r1),([5],fun bx=>Q (aI ((bx.getD 0 fe).h 0).1 ((bx.getD 0 fe).h 0).2 l6.length)),tc (da mp v.U),tc (tD mp v.U)] [false,false,false,false,false,true,false,false] [fun _=>[d5 (rI .u8) 5 l c ([(u8.wrap v.Kind)]),d5 (rI .u8) 5 none 0 y6],fun w_=>[d5 (rI .u8) 5 ((w_ 5).h 0).1 ((w_ 5).h 0).2 l6,d5 (rI .u8) 5 none 0 y6]] J mixed J J J J J
      ⟨⟨[⟨3,fun _=>Q (aI l c (([(u8.wrap v.Kind)]).length)),none⟩],_,0,0,J,⟨(fun _=>J),aV⟩,J,J,J,J,J,fun _ w_ _ _=>af J (ki J)⟩,
      ⟨⟨[⟨1,fun _=>da bh v,none⟩],_,0,0,J,⟨(fun _=>J),aV⟩,J,J,J,J,J,fun _ w_ _ _=>af J (sP oB pC J J)⟩,
      ⟨⟨[⟨41,fun _=>da cj v.N,some 1⟩],_,0,0,J,⟨(fun _=>J),aV⟩,J,J,J,J,J,fun _ w_ _ _=>af J (CM M2 J J)⟩,
      ⟨⟨[⟨42,fun _=>tD cj v.N,some 2⟩],_,0,0,J,⟨(fun _=>J),aV⟩,J,J,J,J,J,fun _ w_ _ _=>af J (cT Cm wG (D J))⟩,
      ⟨⟨[⟨43,fun _=>tD mp (u64.wrap v.N),some 3⟩],_,0,0,J,⟨(fun _=>J),aV⟩,J,J,J,J,J,fun _ w_ _ _=>af J (cC Xb (Zy _ I') ⟨(D J),aV⟩)⟩,
      ⟨⟨[⟨40,fun _=>Q (aI l c (([(u8.wrap v.Kind)]).length)),some 0⟩,⟨44,fun _=>tD KN r1,some 4⟩],_,J,⟨(fun _=>J),(fun _=>J),aV⟩,J,J,J,fun w_=>cG J (vH iV J J J J gV J (D J) (D J) q_l6)⟩,
      ⟨⟨[⟨1,fun _=>da bh v,none⟩],_,0,1,J,⟨(fun _=>J),aV⟩,J,J,J,J,J,fun _ w_ _ _=>af J (sP zS xb J J)⟩,
      ⟨⟨[⟨46,fun _=>da mp v.U,some 6⟩],_,0,1,J,⟨(fun _=>J),aV⟩,J,J,J,J,J,fun _ w_ _ _=>af J (CM kG J J)⟩,
      aV⟩⟩⟩⟩⟩⟩⟩⟩ (fun w_=>?_)
     refine(show RG _ _ _ _ [_,_] _ from ?_);exact lp h Xb (Ie _) (co J) fun r2 h l7 c5=>ed<|cR 48 J<|bf<|bR h fun y_ L_ h=>bA iV J J J J gV J J (D J) (mY (D J)) L_ fun l8 c6=>dM J<|aJ<|ah<|an<|aw J<|ba J<|so h▸gu J J
    ·exact aW<|ah<|an<|aw J<|ba J<|so h▸gu J J
def Eu e{R}(h:tk e=some R):jI bt 103 [tD bT e] false (rI .u8) 5 R:=by
 refine jI.of func103 J J J fun w0 S0=>O<|eH J<|cn false (rI .u8) 5<|X (cg vk)<|bC<|O<|aU ia fD pO J<|bX mo J<|X (cT jm wG (D J))<|lp h OJ (xY _ _) (co J) fun r h l c=>aK J<|aN<|bP<|aJ ?_;refine an<|ak<|bK<|fT<|oG ?_;refine aM (ww (aH:=fun n out l1 c1 i=>la e n out i=some R) (Of:=fun out l1 c1 i=>[d5 (rI .u8) 5 l1 c1 out]) (Gf:=fun out l1 c1 i=>[(1,da bT e),(3,oI l1 c1 out),(4,bI i)]) (fun out l1 c1 i h=>nn h) (fun n ih out l1 c1 i h=>?_) de r l c 0 h) (aX J);refine cy<|aN<|Z J<|aU ia fD pO J<|bX mo J<|im J<|bV h J (fun h=>?_) (fun h=>?_)
 ·refine fy<|aS<|ak<|O<|aU ia fD pO J<|Z J<|bR h fun e1 Z' h=>eE mo fF J Z'<|bD fF md J fun b=>be fF aq J<|bj 5 J<|bC<|aw J<|aU jj eY bH J<|X (cT jm ln (D J))<|X (aT (r:=(rI .u8)) (ys:=[(u8.wrap e1.Tag)]) (xs:=[.tmp 26]) gV iV J J J J J ⟨(D J),aV⟩) ?_;refine bR h fun n' X' h=>bA iV J J J J gV J J (D J) (D J) X' fun l2 c2=>aK J ?_;refine y4 (aH:=fun V' l3 c3=>vb (la e n) i e1 V'=some R) (Of:=fun V' l3 c3=>[d5 (rI .u8) 5 l3 c3 V']) (Gf:=fun V' l3 c3=>[(1,da bT e),(3,oI l3 c3 V'),(4,bI i),(5,da bG e1)]) (fun V' l3 c3 h=>?_) (fun hx=>?_)
  ·skip;refine O<|aU jj eY bH J<|bl J<|bV h J (fun h=>?_) (fun h=>?_)
   ·refine ai<|Z J<|aU uA oo cb J<|lp h aaR (Ox _) (co J) fun r1 h l4 c4=>ed<|cR 44 J<|bf<|bR h fun y_ L_ h=>bA iV J J J J gV J J (D J) (mY (D J)) L_ fun l5 c5=>dM J<|aJ<|ah<|an<|ai<|Z J<|X (cU (D J) hI)<|dM J<|aJ<|ap<|aF ?_;exact aY (aM (ih y_ l5 c5 (i64.wrap (i+1)) h) (aX J))
   ·refine aW<|ah<|an<|ai<|Z J<|X (cU (D J) hI)<|dM J<|aJ ?_;exact aY (aM (ih V' l3 c3 (i64.wrap (i+1)) h) (aX J))
  ·skip;refine O<|aU jj eY bH J<|bl J<|bV h J (fun h=>?_) (fun h=>?_)
   ·refine ai<|Z J<|aU pF j8 bH J<|X (cT jm ln (D J))<|X (aT (r:=(rI .u8)) (ys:=[(u8.wrap e1.o_)]) (xs:=[.tmp 35]) gV iV J J J J J ⟨(D J),aV⟩)<|bR h fun A_ R_ h=>bA iV J J J J gV J J (D J) (D J) R_ fun l6 c6=>dM J<|aJ ?_;exact bE (hx A_ l6 c6 h) (aX J)
   ·refine aW ?_;exact bE (hx n' l2 c2 h) (aX J)
 ·exact cL<|am<|am<|bL<|an<|aw J<|ba J<|so h▸gu J J
def YL n{R}(h:zl n=some R):jI bt 47 [tD aQ n] false (rI .u8) 5 R:=by
 refine jI.of func47 J J J fun w0 S0=>O<|eH J<|cn false (rI .u8) 5<|X (cg vk)<|bC<|O<|aU gq db bH J<|X (cT jm ln (D J))<|iU (r:=(rI .u8)) (ys:=[(u8.wrap n.Op)]) (xs:=[.tmp 9]) gV iV J J J J J ⟨(D J),aV⟩ J fun l c=>aK J<|aN<|aU gq db bH J<|bC ?_;refine ak ?_;refine dP (aH:=fun x=>qa n x=some R) (Of:=fun x=>[d5 (rI .u8) 5 l c ([(u8.wrap n.Op)])]) (Gf:=fun x=>[(1,da aQ n),(3,Q (aI l c (([(u8.wrap n.Op)]).length))),(12,bI n.Op),(13,fU x)]) (fun x h=>?_) (fun hx=>?_)
 ·skip;refine fz h J (fun h=>?_) (fun h=>?_)
  ·refine aw J<|aU rD jw bH J<|X (cT jm ln (D J))<|X (aT (r:=(rI .u8)) (ys:=[(u8.wrap n.Table)]) (xs:=[.tmp 19]) gV iV J J J J J ⟨(D J),aV⟩)<|bR h fun out q_out h=>bA iV J J J J gV J J (D J) (D J) q_out fun l1 c1=>aK J<|ai<|Z J<|aU kU fE cV J<|lp h acW (LQ _) (co J) fun r h l2 c2=>ed<|cR 25 J<|bf<|bR h fun n' X' h=>bA iV J J J J gV J J (D J) (mY (D J)) X' fun l3 c3=>dM J ?_;exact aJ<|ah<|an<|aw J<|ba J<|so h▸gu J J
  ·refine O<|bl J<|aK J<|fz h J (fun h=>?_) (fun h=>?_)
   ·refine aw J<|aU zL tt ua J<|ej h Z6 (LR _) (co J) fun r1 h=>X (aT (r:=(rI .u8)) (ys:=[r1]) (xs:=[.tmp 32]) gV iV J J J J J ⟨(D J),aV⟩)<|bR h fun V' m_ h=>bA iV J J J J gV J J (D J) (D J) m_ fun l4 c4=>aK J<|ai<|Z J<|aU sN lX hY J<|lp h SG (Eu _) (co J) fun r2 h l5 c5=>ed<|cR 38 J<|bf<|bR h fun y_ L_ h=>bA iV J J J J gV J J (D J) (mY (D J)) L_ fun l6 c6=>?_;exact dM J<|aJ<|ah<|an<|aw J<|ba J<|so h▸gu J J
   ·refine O<|bl J<|aK J<|fz h J (fun h=>?_) (fun h=>?_)
    ·exact ai<|Z J<|aU sN lX hY J<|lp h SG (Eu _) (co J) fun r3 h l7 c7=>ed<|cR 45 J<|bf<|bR h fun A_ R_ h=>bA iV J J J J gV J J (D J) (mY (D J)) R_ fun l8 c8=>dM J<|aJ<|ah<|an<|aw J<|ba J<|so h▸gu J J
    ·refine dP (aH:=fun x1=>n9 n x1=some R) (Of:=fun x1=>[d5 (rI .u8) 5 l c ([(u8.wrap n.Op)])]) (Gf:=fun x1=>[(1,da aQ n),(3,Q (aI l c (([(u8.wrap n.Op)]).length))),(12,bI n.Op),(47,fU x1)]) (fun x1 h=>?_) (fun K1=>?_)
     ·skip;refine fz h J (fun h=>?_) (fun h=>?_)
      ·refine aw J<|aU kp fv cV J<|lp h acW (LQ _) (co J) fun r4 h l9 c9=>ed<|cR 54 J<|bf<|bR h fun D_ X_ h=>bA iV J J J J gV J J (D J) (mY (D J)) X_ fun l10 c10=>aK J<|aw J<|aU iS d6 qT J<|bX ny J<|X (cT jm ln (D J))<|X (aT (r:=(rI .u8)) (ys:=[(u8.wrap (n.u'.length:Int))]) (xs:=[.tmp 60]) gV iV J J J J J ⟨(D J),aV⟩)<|bR h fun out6 q_out6 h=>?_;refine bA iV J J J J gV J J (D J) (D J) q_out6 fun l11 c11=>aK J<|O<|bP<|bC<|ak<|bK<|fT<|oG ?_;refine aM (ww (aH:=fun n1 z_ l12 c12 i=>p9 n n1 z_ i=some R) (Of:=fun z_ l12 c12 i=>[d5 (rI .u8) 5 l12 c12 z_]) (Gf:=fun z_ l12 c12 i=>[(1,da aQ n),(3,oI l12 c12 z_),(4,bI i)]) (fun z_ l12 c12 i h=>nn h) (fun n1 ih z_ l12 c12 i h=>?_) de out6 l11 c11 0 h) (aX J);refine cy<|aN<|Z J<|aU iS d6 qT J<|bX ny J<|im J<|bV h J (fun h=>?_) (fun h=>?_)
       ·refine fy<|aS<|ak<|aw J<|aU iS d6 qT J<|Z J<|bR h fun e N_ h=>FF ny jt J N_<|aU kz je bH J<|X (cT jm ln (D J))<|X (aT (r:=(rI .u8)) (ys:=[(u8.wrap e.Tag)]) (xs:=[.tmp 77]) gV iV J J J J J ⟨(D J),aV⟩)<|bR h fun out8 q_out8 h=>bA iV J J J J gV J J (D J) (D J) q_out8 fun l13 c13=>aK J<|ai<|Z J<|qX iS d6 J ?_;refine eb qT J<|Z J<|FF ny jt J N_<|aU sm oX hY J<|lp h SG (Eu _) (co J) fun r5 h l14 c14=>ed<|cR 87 J<|bf<|bR h fun out9 q_out9 h=>bA iV J J J J gV J J (D J) (mY (D J)) q_out9 fun l15 c15=>dM J<|aJ<|ah<|an<|ai<|Z J<|X (cU (D J) hI)<|dM J<|aJ<|ap<|aF ?_;exact aY (aM (ih out9 l15 c15 (i64.wrap (i+1)) h) (aX J))
       ·exact cL<|am<|am<|bL<|ah<|an<|aw J<|ba J<|so h▸gu J J
      ·refine O<|bl J<|aK J<|fz h J (fun h=>?_) (fun h=>?_)
       ·refine aw J<|aU sM lW Cf J<|bX uL J<|X (cT jm ln (D J))<|X (aT (r:=(rI .u8)) (ys:=[(u8.wrap (n.D'.length:Int))]) (xs:=[.tmp 95]) gV iV J J J J J ⟨(D J),aV⟩)<|bR h fun out10 q_out10 h=>bA iV J J J J gV J J (D J) (D J) q_out10 fun l16 c16=>aK J<|O<|bP<|bC<|ak<|bK ?_;refine aM (ww (aH:=fun n2 P_ l17 c17 i1=>p7 n n2 P_ i1=some R) (Of:=fun P_ l17 c17 i1=>[d5 (rI .u8) 5 l17 c17 P_]) (Gf:=fun P_ l17 c17 i1=>[(1,da aQ n),(3,oI l17 c17 P_),(5,bI i1)]) (fun P_ l17 c17 i1 h=>nn h) (fun n2 ih1 P_ l17 c17 i1 h=>?_) de out10 l16 c16 0 h) (aX J);refine cy<|aN<|Z J<|aU sM lW Cf J<|bX uL J<|im J<|bV h J (fun h=>?_) (fun h=>?_)
        ·refine fy<|aS<|ak<|ai<|Z J<|aU sM lW Cf J<|Z J<|bR h fun e1 Z' h=>eE uL hY J Z'<|lp h SG (Eu _) (co J) fun r6 h l18 c18=>ed<|cR 111 J<|bf<|bR h fun out12 q_out12 h=>bA iV J J J J gV J J (D J) (mY (D J)) q_out12 fun l19 c19=>dM J<|aJ<|ah<|an<|ai ?_;refine Z J<|X (cU (D J) hI)<|dM J<|aJ<|ap<|aF ?_;exact aY (aM (ih1 out12 l19 c19 (i64.wrap (i1+1)) h) (aX J))
        ·exact cL<|am<|am<|bL<|ah<|an<|aw J<|ba J<|so h▸gu J J
       ·refine O<|bl J<|aK J<|fz h J (fun h=>?_) (fun h=>?_)
        ·refine aw J<|aU ky gp wM J<|bX uM J<|X (cT jm ln (D J))<|X (aT (r:=(rI .u8)) (ys:=[(u8.wrap (n.B'.length:Int))]) (xs:=[.tmp 119]) gV iV J J J J J ⟨(D J),aV⟩)<|bR h fun out13 q_out13 h=>bA iV J J J J gV J J (D J) (D J) q_out13 fun l20 c20=>aK J<|aN<|bP<|bC<|ak<|bK ?_;refine aM (ww (aH:=fun n3 T_ l21 c21 i2=>p6 n n3 T_ i2=some R) (Of:=fun T_ l21 c21 i2=>[d5 (rI .u8) 5 l21 c21 T_]) (Gf:=fun T_ l21 c21 i2=>[(1,da aQ n),(3,oI l21 c21 T_),(6,bI i2)]) (fun T_ l21 c21 i2 h=>nn h) (fun n3 ih2 T_ l21 c21 i2 h=>?_) de out13 l20 c20 0 h) (aX J);refine cy<|aN<|Z J<|aU ky gp wM J<|bX uM J<|im J<|bV h J (fun h=>?_) (fun h=>?_)
         ·refine fy<|aS<|ak<|bR h fun e2 I_ h=>bR h fun r7 q_r7 h=>?_;refine rK 16 (ts:=[oI l21 c21 T_,da (gE fI) n.B',ek (fI) n.B',bI i2,da fI e2,da cj e2.o_,bI e2.o_,tD (rI .u8) (u8.wrap e2.o_),da (gE fI) n.B',ek (fI) n.B',bI i2,da fI e2,da rB e2.Desc,fU e2.Desc,tD (rI .u8) r7,ek ((rI .u8)) ([(u8.wrap e2.o_),r7])]) mixed J J J
           ⟨fc J J,
           ⟨Dm 1 J J (sP ky gp J J),
           ⟨kF 1 wM J J,
           ⟨fc J J,
           ⟨fR 131 2 132 3 J J J (Aq uM qY J J J I_),
           ⟨eS 133 4 J J (sP Et yS J J),
           ⟨kF 5 bH J J,
           ⟨eS 135 6 J J (cT jm ln (D J)),
           ⟨Dm 1 J J (sP ky gp J J),
           ⟨kF 8 wM J J,
           ⟨fc J J,
           ⟨fR 138 9 139 10 J J J (Aq uM qY J J J I_),
           ⟨eS 140 11 J J (sP YH Oo J J),
           ⟨kF 12 ua J J,
           ⟨eS 142 13 J J (cC Z6 (LR _ q_r7) ⟨(D J),aV⟩),
           ⟨fR 136 7 143 14 J J J (aT (r:=(rI .u8)) (ys:=[(u8.wrap e2.o_),r7]) (xs:=[.tmp 136,.tmp 143]) gV iV J J J J J ⟨(D J),(D J),aV⟩),
           aV⟩⟩⟩⟩⟩⟩⟩⟩⟩⟩⟩⟩⟩⟩⟩⟩ ?_
          refine bR h fun out15 q_out15 h=>bA iV J J J J gV J J (D J) (D J) q_out15 fun l22 c22=>dM J<|aJ<|ah<|an<|ai<|Z J<|X (cU (D J) hI)<|dM J<|aJ ?_;exact aY (aM (ih2 out15 l22 c22 (i64.wrap (i2+1)) h) (aX J))
         ·refine cL<|am<|am<|bL<|an<|ai<|Z J<|aU sk lD bH J<|X (cU (D J) hI)<|X (cT jm wG (D J))<|lp h OJ (xY _ _) (co J) fun r8 h l23 c23=>ed<|cR 151 J<|bf<|bR h fun out16 q_out16 h=>bA iV J J J J gV J J (D J) (mY (D J)) q_out16 fun l24 c24=>dM J<|aJ<|ah<|an<|O ?_;exact Z J<|ba J<|so h▸gu J J
        ·exact aW<|ah<|an<|aw J<|ba J<|so h▸gu J J
     ·skip;refine O<|bl J<|aK J<|fz h J (fun h=>?_) (fun h=>?_)
      ·refine aW ?_;exact bE (K1 (n.Op==4) h) (aX J)
      ·refine O<|bl J<|aK J<|fz h J (fun h=>?_) (fun h=>?_)
       ·refine aW ?_;exact bE (K1 (n.Op==10) h) (aX J)
       ·refine ai<|bl J<|dM J<|aJ ?_;exact bE (K1 (n.Op==11) h) (aX J)
 ·skip;refine O<|bl J<|aK J<|fz h J (fun h=>?_) (fun h=>?_)
  ·refine aW<|ap<|aF ?_;exact bE (hx (n.Op==1) h) (aX J)
  ·refine ai<|bl J<|dM J<|aJ<|ap<|aF ?_;exact bE (hx (n.Op==9) h) (aX J)
