import Derived.Test.YtdohlidddcgfjaaGreatFgT
import Derived.Test.YtdohlidddcgfjaaGreatFgP12
set_option linter.all false
namespace Go.Proofs.YtdohlidddcgfjaaGreat
open Go IntKind Tryz
set_option maxRecDepth 100000
def Y7 p{R}(h:zk p=some R):jI bt 23 [tD jL p] false (rI .u8) 5 R:=by
 refine jI.of func23 J J J fun w0 S0=>O<|eH J<|cn false (rI .u8) 5<|X (cg vk)<|bC<|O<|aU qF kg ze J<|bX vL J<|X (cT jm ln (D J))<|iU (r:=(rI .u8)) (ys:=[(u8.wrap (p.L'.length:Int))]) (xs:=[.tmp 10]) gV iV J J J J J ⟨(D J),aV⟩ J fun l c=>aK J<|aN<|bP<|bC ?_;refine ak<|bK<|fT<|oG ?_;refine aM (ww (aH:=fun n out l1 c1 i=>n8 p n out i=some R) (Of:=fun out l1 c1 i=>[d5 (rI .u8) 5 l1 c1 out]) (Gf:=fun out l1 c1 i=>[(1,da jL p),(3,oI l1 c1 out),(4,bI i)]) (fun out l1 c1 i h=>nn h) (fun n ih out l1 c1 i h=>?_) de ([(u8.wrap (p.L'.length:Int))]) l c 0 h) (aX J);refine cy<|aN<|Z J<|aU qF kg ze J<|bX vL J<|im J<|bV h J (fun h=>?_) (fun h=>?_)
 ·refine fy<|aS<|ak<|O<|aU qF kg ze J<|Z J<|bR h fun e N_ h=>eE vL nr J N_<|bD nr pm J fun b=>be nr aq J<|bj 5 J<|bC<|aw J<|aU yv si bH J<|X (cT jm ln (D J))<|qX yu sh J ?_;refine eb bH J<|X (cT jm ln (D J))<|X (aT (r:=(rI .u8)) (ys:=[(u8.wrap e.At),(u8.wrap e.Way)]) (xs:=[.tmp 27,.tmp 30]) gV iV J J J J J ⟨(D J),(D J),aV⟩)<|bR h fun n' X' h=>bA iV J J J J gV J J (D J) (D J) X' fun l2 c2=>aK J<|aw J<|aU vQ oW cV J<|lp h acW (LQ _) (co J) fun r h l3 c3=>ed<|cR 36 J<|bf<|bR h fun V' m_ h=>bA iV J J J J gV J J (D J) (mY (D J)) m_ fun l4 c4=>aK J<|aS ?_;refine ai<|Z J<|aU vR sj sE J<|bX mn J<|X (cT jm ln (D J))<|X (aT (r:=(rI .u8)) (ys:=[(u8.wrap (e.i'.length:Int))]) (xs:=[.tmp 42]) gV iV J J J J J ⟨(D J),aV⟩)<|bR h fun y_ L_ h=>bA iV J J J J gV J J (D J) (D J) L_ fun l5 c5=>aK J<|O<|bP<|bC<|ak<|bK<|fT<|oG ?_;refine aM (ww (aH:=fun n1 A_ l6 c6 k=>pZ (n8 p n) i e n1 A_ k=some R) (Of:=fun A_ l6 c6 k=>[d5 (rI .u8) 5 l6 c6 A_]) (Gf:=fun A_ l6 c6 k=>[(1,da jL p),(3,oI l6 c6 A_),(4,bI i),(5,da cK e),(6,bI k)]) (fun A_ l6 c6 k h=>nn h) (fun n1 ih1 A_ l6 c6 k h=>?_) de y_ l5 c5 0 h) (aX J);refine cy<|aN<|Z J<|aU vR sj sE J<|bX mn J<|im J<|bV h J (fun h=>?_) (fun h=>?_)
  ·refine fy<|aS<|ak<|ai<|Z J<|aU vR sj sE J<|Z J<|bR h fun e1 Z' h=>eE mn dL J Z'<|lp h agx (YL _) (co J) fun r1 h l7 c7=>ed<|cR 58 J<|bf<|bR h fun D_ X_ h=>bA iV J J J J gV J J (D J) (mY (D J)) X_ fun l8 c8=>dM J<|aJ<|ah<|an<|ai ?_;refine Z J<|X (cU (D J) hI)<|dM J<|aJ<|ap<|aF ?_;exact aY (aM (ih1 D_ l8 c8 (i64.wrap (k+1)) h) (aX J))
  ·refine cL<|am<|am<|bL<|ah<|an<|ai<|Z J<|X (cU (D J) hI)<|dM J<|aJ ?_;exact aY (aM (ih A_ l6 c6 (i64.wrap (i+1)) h) (aX J))
 ·exact cL<|am<|am<|bL<|an<|aw J<|ba J<|so h▸gu J J
def ya v{R}(h:ip v=some R):dk bt 123 [tD bh v] (fU R):=by
 refine dX func123 J<|O<|eH J<|bo<|bC<|aN<|aU oC kS bH J<|bC<|ak<|O<|bl J<|aK J<|fz h J (fun h=>?_) (fun h=>?_)
 ·exact O<|eb cb J<|X (cI cb vF ge J)<|X (BR FP (D J) (D J))<|ba J<|cF<|so h▸aC J J
 ·refine O<|bl J<|aK J<|fz h J (fun h=>?_) (fun h=>?_)
  ·refine O<|aU zS xb kG J<|bl J<|Z J<|ac J (bu vl ru J J)<|ac J (bp Vk J J)<|ac J (fun Y=>GB (bg J Y) hS)<|cm J<|Z J<|ac J (bu oB pC J J)<|ac J (bp M2 J J)<|ac J (iq J)<|ac J (ov J)<|cO J J J J (fun Y=>sP oB pC J J)<|cO J J J J (fun Y=>fC M2 J J (bg J Y))<|cO J J J J (fun Y=>dW (bg J Y) hI)<|ac J (fun Y=>ke (bg J Y) (fun V=>(bg J (ub Y (sL V)))))<|cm J<|ba J ?_;exact cF<|so h▸aC J J
  ·refine O<|bl J<|aK J<|fz h J (fun h=>?_) (fun h=>?_)
   ·exact O<|aU zS xb kG J<|bl J<|Z J<|ac J (bu vl ru J J)<|ac J (bp Vk J J)<|ac J (fun Y=>GB (bg J Y) hS)<|cm J<|ba J<|cF<|so h▸aC J J
   ·refine O<|bl J<|aK J<|fz h J (fun h=>?_) (fun h=>?_)
    ·exact O<|aU oB pC M2 J<|bl J<|Z J<|ac J (bu zS xb J J)<|ac J (bp kG J J)<|ac J (iq J)<|cm J<|Z J<|ac J (bu vl ru J J)<|ac J (bp Vk J J)<|ac J (fun Y=>LC Dy (bg J Y))<|ac J (fun Y=>ft (bg J Y) hI)<|cm J<|ba J<|cF<|so h▸aC J J
    ·exact aW<|ah<|an<|O<|aU oC kS bH J<|bl J<|Z J<|ac J (bu vl ru J J)<|ac J (bp Vk J J)<|ac J (fun Y=>GB (bg J Y) hS)<|cm J<|ba J<|so h▸aC J J
def abK r{R}(h:BE r=some R):dk bt 77 [ek (bh) r] (tT [ek ((rI .u8)) R.1,bI R.2]):=by
 refine dX func77 J<|O<|fb ((rI .u8))<|bP<|bC<|aN<|Z J<|bX wH J<|X (d8 (D J) hI)<|bV h J (fun h=>?_) (fun h=>?_)
 ·exact O<|fb ((rI .u8))<|ea<|ae<|so h▸cM J J J
 ·refine fy<|aw J<|bX wH J<|X (cT jm ln (D J))<|iU (r:=(rI .u8)) (ys:=[(u8.wrap (r.length:Int))]) (xs:=[.tmp 12]) gV iV J J J J J ⟨(D J),aV⟩ J fun l c=>aK J<|aN<|Z J<|bX wH J<|X (cB hI)<|bC<|ak<|bJ (k:=14) J fun hN=>bK ?_;refine aM (nX (aH:=fun ls i out l1 c1=>(r.drop i=ls)/\rU ls out=some R) (Of:=fun _ i out l1 c1=>[d5 (rI .u8) 5 l1 c1 out]) (Gf:=fun _ i out l1 c1=>[(4,oI l1 c1 out),(14,ek (bh) r),(15,mR r),(16,bI (i:Int))]) (fun i out l1 c1 h=>?_) (fun e tl ih i out l1 c1 h=>?_) r 0 ([(u8.wrap (r.length:Int))]) l c ⟨J,h⟩) (aX J)
  ·obtain⟨K,h⟩:=h;refine gk K J<|an<|aw J<|dM J<|ea<|dE<|bS 4 J<|bS 28 J ?_;exact bS 2 J<|fa 2 J<|aF<|so h▸cM J J J
  ·obtain⟨K,h⟩:=h;refine gj K J<|aS<|ak<|O<|eE wH cb J (fh K)<|bD cb ge J fun b=>be cb aq J<|bj 6 J<|bC<|aN ?_;refine eb cb J<|ej h FX (ya _) (co J) fun r1 h=>X (fq (D J))<|bV h J (fun h=>?_) (fun h=>?_)
   ·exact O<|fb ((rI .u8))<|ea<|ae<|cF<|ae<|cF<|aF<|so h▸cM J J J
   ·refine fy<|ai<|Z J<|eb cb J<|lp h aaR (Ox _) (co J) fun r2 h l2 c2=>ed<|cR 25 J<|bf<|bR h fun n' X' h=>bA iV J J J J gV J J (D J) (mY (D J)) X' fun l3 c3=>dM J<|aJ<|eN K hN J<|ap<|aF ?_;exact aY (aM (ih (i+1) n' l3 c3 ⟨ei K,h⟩) (aX J))
def ab6 l{R}(h:zw l=some R):dk bt 37 [ek (u9) l] (tT [ek ((rI .u8)) R.1,bI R.2.1,bI R.2.2]):=by
 refine dX func37 J<|O<|fb ((rI .u8))<|bP<|bP<|bC<|aN<|Z J<|bX tZ J<|X (d8 (D J) hI)<|bV h J (fun h=>?_) (fun h=>?_)
 ·exact O<|fb ((rI .u8))<|bP<|ea<|ae<|so h▸pK J J J J
 ·refine fy<|aw J<|bX tZ J<|X (C3 (D J) hI (by decide))<|X (cT jm ln (D J))<|Z J<|bX tZ J<|X (HJ (D J) hI (by decide))<|X (cT jm ln (D J))<|iU (r:=(rI .u8)) (ys:=[(u8.wrap (i64.wrap (((l.length:Int)).tdiv 256))),(u8.wrap (((l.length:Int)).tmod 256))]) (xs:=[.tmp 16,.tmp 20]) gV iV J J J J J ⟨(D J),(D J),aV⟩ J fun l1 c=>aK J<|aN<|Z J<|bX tZ J<|X (cB hI)<|bC ?_;refine ak<|bJ (k:=22) J fun hN=>bK ?_;refine aM (nX (aH:=fun ls i out l2 c1=>(l.drop i=ls)/\qj ls i out=some R) (Of:=fun _ i out l2 c1=>[d5 (rI .u8) 5 l2 c1 out]) (Gf:=fun _ i out l2 c1=>[(5,oI l2 c1 out),(22,ek (u9) l),(23,mR l),(24,bI (i:Int))]) (fun i out l2 c1 h=>?_) (fun e tl ih i out l2 c1 h=>?_) l 0 ([(u8.wrap (i64.wrap (((l.length:Int)).tdiv 256))),(u8.wrap (((l.length:Int)).tmod 256))]) l1 c ⟨J,h⟩) (aX J)
  ·obtain⟨K,h⟩:=h;refine gk K J<|an<|aw J<|dM J<|bP<|ea<|dE<|bS 5 J ?_;exact bS 42 J<|bS 2 J<|fa 2 J<|aF<|so h▸pK J J J J
  ·obtain⟨K,h⟩:=h;refine gj K J<|aS<|ak<|aw J<|eE tZ xw J (fh K)<|dM J<|aK J<|aw J ?_;refine ej h af9 (abK _) (co J) fun r h=>Z J<|dJ J J<|dJ J J<|dM J<|aK J<|aN<|Z J<|mV J<|bV h J (fun h=>?_) (fun h=>?_)
   ·exact aw J<|Z J<|fb ((rI .u8))<|dM J<|ba J<|ae<|cF<|ae<|cF<|aF<|so h▸pK J J J J
   ·refine fy<|ai<|Z J<|Z J<|bR h fun n' X' h=>bA iV J J J J gV J J (D J) (D J) X' fun l3 c2=>dM J<|aJ<|eN K hN J ?_;exact aY (aM (ih (i+1) n' l3 c2 ⟨ei K,h⟩) (aX J))
def ZP register one{R}(h:BF register one=some R):dk bt 125 [tD sC register,fU one] (tD sC R):=by
 refine dX func125 J<|O<|bP<|bC<|aw J<|X (HJ (D J) hI (by decide))<|bl J<|aK J<|aw J<|X (C3 (D J) hI (by decide))<|aK J ?_;refine dP (aH:=fun d_=>wl d_=some R) (Of:=fun d_=>[]) (Gf:=fun d_=>[(0,tD sC d_)]) (fun d_ h=>?_) (fun hx=>?_)
 ·skip;exact aw J<|ba J<|so h▸aC J J
 ·skip;refine aw J<|Z J<|X (LA KK (D J) (D J))<|bV h J (fun h=>?_) (fun h=>?_)
  ·refine ai<|Z J<|X (HI (D J) hI)<|dM J<|aJ ?_;exact bE (hx (sO .xor .u32 (u32.wrap ((register).tdiv 2)) 2197175160) h) (aX J)
  ·refine aW ?_;exact bE (hx (u32.wrap ((register).tdiv 2)) h) (aX J)
def abJ b{R}(h:AX b=some R):dk bt 78 [ek ((rI .u8)) b] (tD sC R):=by
 refine dX func78 J<|O<|bP<|bC<|O<|bP<|bC<|aN<|bP<|bC<|ak<|bJ (k:=0) J fun hN=>bK ?_;refine aM (uE (aH:=fun ls i register=>(b.drop i=ls)/\nd ls register=some R) (Of:=fun _ i register=>[]) (Gf:=fun _ i register=>[(0,ek ((rI .u8)) b),(3,tD sC register),(4,bI (i:Int))]) (fun i register h=>?_) (fun e tl ih i register h=>?_) b 0 4294967295 ⟨J,h⟩) (aX J)
 ·obtain⟨K,h⟩:=h;exact JK gV K J<|an<|aw J<|X (ec hI (D J))<|ba J<|so h▸aC J J
 ·obtain⟨K,h⟩:=h;refine JJ gV K J<|aS<|ak<|aw J<|Z J<|eE gV iV J (fh K)<|aK J ?_;refine O<|bP<|bC<|ak<|bK ?_;refine aM (Mt (aH:=fun k i1 d_ c=>(8-i1=k)/\oR (nd tl) k d_ c=some R) (Of:=fun _ i1 d_ c=>[]) (Gf:=fun _ i1 d_ c=>[(0,ek ((rI .u8)) b),(3,tD sC d_),(4,bI (i:Int)),(5,tD (rI .u8) c),(6,bI (i1:Int))]) (fun i1 d_ c h=>?_) (fun k1 ih1 i1 d_ c h=>?_) 8 0 register e ⟨J,h⟩) (aX J)
  ·obtain⟨l_,h⟩:=h;refine cy<|aN<|Z J<|X (eC (D J) hI)<|bC<|xn (D J) (Yn l_)<|cL<|am<|am<|bL<|GX K hN J ?_;exact aY (aM (ih (i+1) d_ ⟨ei K,h⟩) (aX J))
  ·obtain⟨l_,h⟩:=h;refine cy<|aN<|Z J<|X (eC (D J) hI)<|bC<|xm (D J) (Ym l_)<|fy<|aS<|ak<|aw J<|Z J<|X (HJ (D J) hI (by decide))<|bl J<|ej h afo (ZP _ _) (co J) fun r h=>aK J ?_;refine ai<|Z J<|X (C3 (D J) hI (by decide))<|dM J<|aJ<|ah<|an<|ai<|Z J<|X (BQ (VV l_ (by decide)) (D J) hI)<|dM J<|aJ ?_;exact aY (aM (ih1 (i1+1) r (u8.wrap ((c).tdiv 2)) ⟨VU l_,h⟩) (aX J))
def YK a1 b{R}(h:zy a1 b=some R):jI bt 79 [ek ((rI .u8)) a1,ek ((rI .u8)) b] false (rI .u8) 5 R:=by
 exact jI.of func79 J J J fun w0 S0=>O<|cn false (rI .u8) 5<|X (cg vk)<|bC<|O<|iU (r:=(rI .u8)) (ys:=y6) (xs:=[]) gV iV J J J J J trivial J fun l c=>Z J<|bR h fun l1 Y_ h=>bA iV J J J J gV J J (D J) (D J) Y_ fun l2 c1=>Z J<|bR h fun x q_x h=>bA iV J J J J gV J J (D J) (D J) q_x fun l3 c2=>ba J<|so h▸gu J J
def zT b{R}(h:jZ b=some R):jI bt 38 [ek ((rI .u8)) b] false (rI .u8) 5 R:=by
 refine jI.of func38 J J J fun w0 S0=>O<|cn false (rI .u8) 5<|X (cg vk)<|bC<|aw J<|ej h af8 (abJ _) (co J) fun r h=>aK J<|O<|cn false (rI .u8) 5<|X (cg vk)<|bC<|aN ?_;refine bP<|bC<|ak<|bK<|fT<|oG ?_;refine aM (Ms (aH:=fun k i last l c n=>(4-i=k)/\qk b k last n=some R) (Of:=fun _ i last l c n=>[d5 (rI .u8) 5 l c last]) (Gf:=fun _ i last l c n=>[(0,ek ((rI .u8)) b),(3,tD sC n),(4,oI l c last),(5,bI (i:Int))]) (fun i last l c n h=>?_) (fun k1 ih i last l c n h=>?_) 4 0 y6 none 0 r ⟨J,h⟩) (aX J)
 ·obtain⟨K,h⟩:=h;refine cy<|aN<|Z J<|X (eC (D J) hI)<|bC<|xn (D J) (Yn K)<|cL<|am<|am<|bL<|an<|aw J<|Z J<|ed<|cR 4 J<|cR 21 J<|lp h af7 (YK _ _) ⟨(D J),(mY (D J)),aV⟩ fun r1 h l1 c1=>dM J ?_;exact bF<|so h▸gu J J
 ·obtain⟨K,h⟩:=h;refine cy<|aN<|Z J<|X (eC (D J) hI)<|bC<|xm (D J) (Ym K)<|fy<|aS<|ak<|aw J<|Z J<|X (HJ (D J) hI (by decide))<|X (cT FA ln (D J))<|X (aT (r:=(rI .u8)) (ys:=[(u8.wrap ((n).tmod 256))]) (xs:=[.tmp 15]) gV iV J J J J J ⟨(D J),aV⟩)<|bR h fun last1 q_last1 h=>bA iV J J J J gV J J (D J) (D J) q_last1 fun l2 c2=>dM J<|aJ ?_;refine an<|ai<|Z J<|X (C3 (D J) hI (by decide))<|dM J<|aJ<|ah<|an<|ai<|Z J<|X (BQ (VV K (by decide)) (D J) hI)<|dM J<|aJ ?_;exact aY (aM (ih (i+1) last1 l2 c2 (u32.wrap ((n).tdiv 256)) ⟨VU K,h⟩) (aX J))
def ab5 b{R}(h:jZ b=some R):dk bt 38 [ek ((rI .u8)) b] (ek ((rI .u8)) R):=(zT _ h).spec
def Zs m{R}(h:o9 m=some R):jI bt 18 [tD ew m] false (rI .u8) 5 R:=by
 refine jI.of func18 J J J fun w0 S0=>O<|eH J<|cn false (rI .u8) 5<|X (cg vk)<|bC<|O<|aU rG nU bH J<|X (cT jm ln (D J))<|aU vT s0 bH J<|X (cT jm ln (D J))<|aU vS sZ bH J<|X (cT jm ln (D J))<|aU uZ rA bH J<|X (cT jm ln (D J))<|iU (r:=(rI .u8)) (ys:=[(u8.wrap m.Kind),(u8.wrap m.f_),(u8.wrap m.To),(u8.wrap m.P')]) (xs:=[.tmp 10,.tmp 13,.tmp 16,.tmp 19]) gV iV J J J J J ⟨(D J),(D J),(D J),(D J),aV⟩ J fun l c=>dM J ?_;refine bC<|O<|aU rF ry mX J<|bD mX mJ J fun b=>be mX aq J<|bj 4 J<|bC<|aN<|aU rG nU bH J<|bC<|ak<|O<|bl J<|dM J<|aJ ?_;refine an<|fz h J (fun h=>?_) (fun h=>?_)
 ·refine aw J<|aU tu rz bH J<|X (cT jm ln (D J))<|X (aT (r:=(rI .u8)) (ys:=[(u8.wrap m.U')]) (xs:=[.tmp 30]) gV iV J J J J J ⟨(D J),aV⟩)<|bR h fun out q_out h=>bA iV J J J J gV J J (D J) (D J) q_out fun l1 c1=>aK J<|ai<|Z J<|aU ux uw AF J<|lp h agO (Y7 _) (co J) fun r h l2 c2=>ed<|cR 36 J<|bf<|bR h fun n' X' h=>bA iV J J J J gV J J (D J) (mY (D J)) X' fun l3 c3=>dM J ?_;exact aJ<|ah<|an<|aw J<|ed<|cR 37 J<|cR 3 J<|cR 117 J<|lp h Q3 (zT _) ⟨(mY (D J)),aV⟩ fun r1 h l4 c4=>ba J<|so h▸gu J J
 ·refine O<|bl J<|aK J<|fz h J (fun h=>?_) (fun h=>?_)
  ·refine aw J<|aU qE pT bH J<|X (cT jm ln (D J))<|X (aT (r:=(rI .u8)) (ys:=[(u8.wrap m.e_)]) (xs:=[.tmp 43]) gV iV J J J J J ⟨(D J),aV⟩)<|bR h fun V' m_ h=>bA iV J J J J gV J J (D J) (D J) m_ fun l5 c5=>aK J<|aw J<|aU zO pd sF J<|X (cT FA wG (D J))<|lp h OJ (xY _ _) (co J) fun r2 h l6 c6=>ed<|cR 50 J<|bf<|bR h fun y_ L_ h=>?_;refine bA iV J J J J gV J J (D J) (mY (D J)) L_ fun l7 c7=>aK J<|aw J<|aU tv ji kG J<|lp h OJ (xY _ _) (co J) fun r3 h l8 c8=>ed<|cR 55 J<|bf<|bR h fun A_ R_ h=>bA iV J J J J gV J J (D J) (mY (D J)) R_ fun l9 c9=>aK J<|aw J<|qX jQ dK J<|qX tw kT J ?_;refine eb ua J<|ej h Z6 (LR _) (co J) fun r4 h=>X (aT (r:=(rI .u8)) (ys:=[r4]) (xs:=[.tmp 61]) gV iV J J J J J ⟨(D J),aV⟩)<|bR h fun D_ X_ h=>bA iV J J J J gV J J (D J) (D J) X_ fun l10 c10=>aK J<|O<|qX jQ dK J<|aU tw kT ua J<|bV h J (fun h=>?_) (fun h=>?_)
   ·refine ai<|Z J<|qX jQ dK J<|aU uy lY kG J<|lp h OJ (xY _ _) (co J) fun r5 h l11 c11=>ed<|cR 71 J<|bf<|bR h fun out6 q_out6 h=>bA iV J J J J gV J J (D J) (mY (D J)) q_out6 fun l12 c12=>dM J<|aJ<|ah<|an<|aw J<|ed<|cR 72 J<|cR 3 J<|cR 117 J<|bR h fun r6 U_ h=>?_;exact IC Q3 (zT _ U_) ⟨(mY (D J)),aV⟩ J fun l13 c13=>ba J<|so h▸gu J J
   ·refine O<|qX jQ dK J<|aU uz lZ DD J<|ej h agG (ab6 _) (co J) fun r7 h=>Z J<|dJ J J<|dJ J J<|dJ J J<|dM J<|dM J<|aK J<|ai<|Z J<|Z J<|bR h fun z_ q_out7 h=>bA iV J J J J gV J J (D J) (D J) q_out7 fun l14 c14=>dM J<|aJ<|ah ?_;exact an<|aw J<|ed<|cR 83 J<|cR 3 J<|cR 117 J<|lp h Q3 (zT _) ⟨(mY (D J)),aV⟩ fun r8 h l15 c15=>ba J<|so h▸gu J J
  ·refine O<|bl J<|aK J<|fz h J (fun h=>?_) (fun h=>?_)
   ·refine aw J<|aU qE pT bH J<|X (cT jm ln (D J))<|X (aT (r:=(rI .u8)) (ys:=[(u8.wrap m.e_)]) (xs:=[.tmp 89]) gV iV J J J J J ⟨(D J),aV⟩)<|bR h fun out8 q_out8 h=>bA iV J J J J gV J J (D J) (D J) q_out8 fun l16 c16=>aK J<|aw J<|aU zO pd sF J<|X (cT FA wG (D J))<|lp h OJ (xY _ _) (co J) fun r9 h l17 c17=>ed<|cR 96 J<|bf<|bR h fun out9 q_out9 h=>?_;refine bA iV J J J J gV J J (D J) (mY (D J)) q_out9 fun l18 c18=>aK J<|aw J<|aU tv ji kG J<|lp h OJ (xY _ _) (co J) fun r10 h l19 c19=>ed<|cR 101 J<|bf<|bR h fun out10 q_out10 h=>bA iV J J J J gV J J (D J) (mY (D J)) q_out10 fun l20 c20=>aK J<|ai<|Z J<|aU u0 lC kG J<|bR h fun r11 V_ h=>?_;exact IC OJ (xY _ _ V_) ⟨(D J),hI,aV⟩ J fun l21 c21=>ed<|cR 106 J<|bf<|bR h fun P_ q_out11 h=>bA iV J J J J gV J J (D J) (mY (D J)) q_out11 fun l22 c22=>dM J<|aJ<|ah<|an<|aw J<|ed<|cR 107 J<|cR 3 J<|cR 117 J<|lp h Q3 (zT _) ⟨(mY (D J)),aV⟩ fun r12 h l23 c23=>ba J<|so h▸gu J J
   ·refine O<|bl J<|aK J<|fz h J (fun h=>?_) (fun h=>?_)
    ·refine ai<|Z J<|aU rE rx wa J<|bl J<|ej h Z6 (LR _) (co J) fun r13 h=>X (aT (r:=(rI .u8)) (ys:=[r13]) (xs:=[.tmp 114]) gV iV J J J J J ⟨(D J),aV⟩)<|bR h fun out12 q_out12 h=>bA iV J J J J gV J J (D J) (D J) q_out12 fun l24 c24=>dM J<|aJ<|ah<|an<|aw J<|ed<|cR 116 J<|cR 3 J<|cR 117 J<|lp h Q3 (zT _) ⟨(mY (D J)),aV⟩ fun r14 h l25 c25=>dM J ?_;exact bF<|so h▸gu J J
    ·exact aW<|ah<|an<|aw J<|ed<|cR 20 J<|cR 3 J<|cR 117 J<|lp h Q3 (zT _) ⟨(mY (D J)),aV⟩ fun r15 h l26 c26=>ba J<|so h▸gu J J
def WC m{R}(h:o9 m=some R):dk bt 18 [tD ew m] (ek ((rI .u8)) R):=(Zs _ h).spec
def Sj op{R}(h:tH op=some R):dk bt 178 [bI op] (bI R):=by
 refine dX func178 J<|O<|bP<|bC<|aN<|Z J<|bC<|ak<|O<|bl J<|aK J<|fz h J (fun h=>?_) (fun h=>?_)
 ·exact O<|ea<|cF<|so h▸aC J J
 ·refine dP (aH:=fun x=>ri op x=some R) (Of:=fun x=>[]) (Gf:=fun x=>[(3,bI op),(6,fU x)]) (fun x h=>?_) (fun hx=>?_)
  ·skip;refine fz h J (fun h=>?_) (fun h=>?_)
   ·exact O<|ea<|cF<|so h▸aC J J
   ·refine dP (aH:=fun x1=>lw x1=some R) (Of:=fun x1=>[]) (Gf:=fun x1=>[(9,fU x1)]) (fun x1 h=>?_) (fun K1=>?_)
    ·skip;refine fz h J (fun h=>?_) (fun h=>?_)
     ·exact O<|ea<|cF<|so h▸aC J J
     ·exact aW<|ah<|an<|O<|ea<|so h▸aC J J
    ·skip;refine O<|bl J<|aK J<|fz h J (fun h=>?_) (fun h=>?_)
     ·refine aW ?_;exact bE (K1 (op==3) h) (aX J)
     ·refine O<|bl J<|aK J<|fz h J (fun h=>?_) (fun h=>?_)
      ·refine aW ?_;exact bE (K1 (op==4) h) (aX J)
      ·refine O<|bl J<|aK J<|fz h J (fun h=>?_) (fun h=>?_)
       ·refine aW ?_;exact bE (K1 (op==5) h) (aX J)
       ·refine O<|bl J<|aK J<|fz h J (fun h=>?_) (fun h=>?_)
        ·refine aW ?_;exact bE (K1 (op==6) h) (aX J)
        ·refine ai<|bl J<|dM J<|aJ ?_;exact bE (K1 (op==8) h) (aX J)
  ·skip;refine O<|bl J<|aK J<|fz h J (fun h=>?_) (fun h=>?_)
   ·refine aW ?_;exact bE (hx (op==2) h) (aX J)
   ·refine ai<|bl J<|dM J<|aJ ?_;exact bE (hx (op==7) h) (aX J)
