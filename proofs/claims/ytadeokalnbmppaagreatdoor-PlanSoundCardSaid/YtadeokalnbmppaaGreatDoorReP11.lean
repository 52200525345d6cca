import Derived.Test.YtadeokalnbmppaaGreatDoorReT
import Derived.Test.YtadeokalnbmppaaGreatDoorReP10
set_option linter.all false
namespace Go.Proofs.YtadeokalnbmppaaGreatDoor
open Go IntKind Tryz EffOK
set_option maxRecDepth 100000
def ac9 l{R}(h:zd l=some R):cN aL 5 [fI (al) l] (gp R):=by
 refine dL func5 J<|aV<|bn<|bA<|bc<|aQ J<|cm kw J<|M (fR (Y J) hI)<|cD h J (fun h=>?_) (fun h=>?_)
 ·exact aV<|bn<|bO<|ai<|so h▸aD J J
 ·refine kp<|bc<|aQ J<|cm kw J<|M (bH hI)<|bA<|am<|aR (k:=12) J fun hN=>bE ?_;refine aE (fj (h3:=fun ls i=>(l.drop i=ls)/\m6 ls=some R) (Of:=fun _ i=>[]) (Gf:=fun _ i=>[(12,fI (al) l),(13,jg l),(14,bX (i:Int))]) (fun i h=>?_) (fun e tl ih i h=>?_) l 0 ⟨J,h⟩) (aX J)
  ·obtain⟨I,h⟩:=h;exact dH I J<|ax<|aV<|bn<|bO<|so h▸aD J J
  ·obtain⟨I,h⟩:=h;refine dG I J<|aw<|am<|aV<|dN kw dc J (dE I)<|aO dc fC J fun b=>bv dc ae J<|aH 4 J<|bA<|bc ?_;refine bg oL gY bK J<|cm dI J<|M (fR (Y J) hI)<|aQ J<|aC J (cZ mf eV J J)<|aC J (cG bK J J)<|aC J (fM dI J)<|aC J (fun H=>fR (br J H) hI)<|fV J<|aQ J<|aC J (cZ rX m8 J J)<|aC J (cG F2 J J)<|aC J (fM Bt J)<|aC J (fun H=>fR (br J H) hI)<|fV J<|aQ J<|aC J (cZ qT lH J J)<|aC J (cG zP J J)<|aC J (fM s7 J)<|aC J (fun H=>fR (br J H) hI)<|fV J<|aQ J<|aC J (cZ kI fH J J) ?_;refine aC J (cG tm J J)<|aC J (fM oP J)<|aC J (fun H=>fR (br J H) hI)<|fV J<|aQ J<|cy h fun t Z_ h=>aC J (cZ tK mK J J)<|aC J (cG jM J J) ?_;obtain⟨r,B_,h0t⟩:=og Z_;have q_rg:=fun K=>(B_ K).1;refine aC J (fun H=>cq acf (Ql _ (q_rg H)) ⟨(br J H),aW⟩)<|M (iz (Y J) (fun K=>(br J (sn K))) (fun K=>(B_ K).2) h0t)<|cD h J (fun h=>?_) (fun h=>?_)
   ·exact aV<|bn<|bO<|ai<|dB<|ai<|dB<|so h▸aD J J
   ·refine kp<|bc<|bg qT lH zP J<|cm s7 J<|M (bH hI)<|bA<|am<|aR (k:=52) J fun hN1=>bE ?_;refine aE (fj (h3:=fun ls1 i1=>(e.N'.drop i1=ls1)/\rG (m6 tl) e ls1=some R) (Of:=fun _ i1=>[]) (Gf:=fun _ i1=>[(4,aY al e),(12,fI (al) l),(13,jg l),(14,bX (i:Int)),(52,fI (cg) e.N'),(53,jg e.N'),(54,bX (i1:Int))]) (fun i1 h=>?_) (fun e1 tl1 ih1 i1 h=>?_) e.N' 0 ⟨J,h⟩) (aX J)
    ·obtain⟨m_,h⟩:=h;refine dH m_ J<|ax<|aV<|bg kI fH tm J<|cm oP J<|M (bH hI)<|bA<|am<|aR (k:=62) J fun hN2=>bE ?_;refine aE (fj (h3:=fun ls2 i2=>(e.L'.drop i2=ls2)/\rF (m6 tl) ls2=some R) (Of:=fun _ i2=>[]) (Gf:=fun _ i2=>[(12,fI (al) l),(13,jg l),(14,bX (i:Int)),(62,fI (eg) e.L'),(63,jg e.L'),(64,bX (i2:Int))]) (fun i2 h=>?_) (fun e2 tl2 ih2 i2 h=>?_) e.L' 0 ⟨J,h⟩) (aX J)
     ·obtain⟨hx2,h⟩:=h;refine dH hx2 J<|dg I hN J ?_;exact aT (aE (ih (i+1) ⟨cV I,h⟩) (aX J))
     ·obtain⟨hx2,h⟩:=h;refine dG hx2 J<|aw<|am<|aV<|dN oP oT J (dE hx2)<|aO oT vo J fun b1=>bv oT ae J<|aH 8 J<|bA<|aV<|qx xO rK J ?_;refine cx jM J<|eG h acf (Ql _) (cA J) fun r1 h=>cD h J (fun h=>?_) (fun h=>?_)
      ·exact aV<|bn<|bO<|dB<|ai<|py<|dB<|ai<|dB<|so h▸aD J J
      ·refine bl<|dg hx2 hN2 J ?_;exact aT (aE (ih2 (i2+1) ⟨cV hx2,h⟩) (aX J))
    ·obtain⟨m_,h⟩:=h;refine dG m_ J<|aw<|am<|aV<|dN s7 jM J (dE m_)<|aO jM te J fun b2=>bv jM ae J<|aH 6 J<|bA<|aV<|cx jM J ?_;refine eG h acf (Ql _) (cA J) fun r2 h=>cD h J (fun h=>?_) (fun h=>?_)
     ·exact aV<|bn<|bO<|dB<|ai<|dB<|dB<|ai<|dB<|so h▸aD J J
     ·refine bl<|dg m_ hN1 J ?_;exact aT (aE (ih1 (i1+1) ⟨cV m_,h⟩) (aX J))
def ac7 c{R}(h:ra c=some R):cN aL 6 [tD eH c] (gp R):=by
 refine dL func6 J<|aV<|cR J<|bn<|bA<|bc<|bg wL kH GX J<|cm Bs J<|M (fR (Y J) hI)<|cD h J (fun h=>?_) (fun h=>?_)
 ·exact aV<|bn<|bO<|ai<|so h▸aD J J
 ·refine kp<|bc<|bg wL kH GX J<|cm Bs J<|M (bH hI)<|bA<|am<|aR (k:=12) J fun hN=>bE ?_;refine aE (fj (h3:=fun ls i=>(c.i_.drop i=ls)/\jx ls=some R) (Of:=fun _ i=>[]) (Gf:=fun _ i=>[(12,fI (fD) c.i_),(13,jg c.i_),(14,bX (i:Int))]) (fun i h=>?_) (fun e tl ih i h=>?_) c.i_ 0 ⟨J,h⟩) (aX J)
  ·obtain⟨I,h⟩:=h;exact dH I J<|ax<|aV<|bn<|bO<|so h▸aD J J
  ·obtain⟨I,h⟩:=h;refine dG I J<|aw<|am<|aV<|dN Bs yR J (dE I)<|aO yR CS J fun b=>bv yR ae J<|aH 4 J<|bA<|bc ?_;refine bg zn pS Kl J<|cm yI J<|M (fR (Y J) hI)<|aQ J<|aC J (cZ HO wI J J)<|aC J (cG bK J J)<|aC J (fM dI J)<|aC J (fun H=>fR (br J H) hI)<|fV J<|aQ J<|aC J (cZ Qd Cy J J)<|aC J (cG OV J J)<|aC J (fun H=>Dk pB (br J H))<|aC J (fun H=>fR (br J H) hI)<|fV J<|cD h J (fun h=>?_) (fun h=>?_)
   ·exact aV<|bn<|bO<|ai<|dB<|ai<|dB<|so h▸aD J J
   ·refine kp<|aV<|bg zn pS Kl J<|cm yI J<|M (bH hI)<|bA<|am<|aR (k:=35) J fun hN1=>bE ?_;refine aE (fj (h3:=fun ls1 i1=>(e.b_.drop i1=ls1)/\kP (jx tl) ls1=some R) (Of:=fun _ i1=>[]) (Gf:=fun _ i1=>[(12,fI (fD) c.i_),(13,jg c.i_),(14,bX (i:Int)),(35,fI (ev) e.b_),(36,jg e.b_),(37,bX (i1:Int))]) (fun i1 h=>?_) (fun e1 tl1 ih1 i1 h=>?_) e.b_ 0 ⟨J,h⟩) (aX J)
    ·obtain⟨m_,h⟩:=h;refine dH m_ J<|dg I hN J ?_;exact aT (aE (ih (i+1) ⟨cV I,h⟩) (aX J))
    ·obtain⟨m_,h⟩:=h;refine dG m_ J<|aw<|am<|aV<|dN yI uX J (dE m_)<|aO uX sF J fun b1=>bv uX ae J<|aH 6 J<|bA<|aV<|qx VP Fz J ?_;refine cx OV J<|M (Dk pB (Y J))<|M (fR (Y J) hI)<|cD h J (fun h=>?_) (fun h=>?_)
     ·exact aV<|bn<|bO<|dB<|ai<|py<|dB<|ai<|dB<|so h▸aD J J
     ·refine bl<|dg m_ hN1 J ?_;exact aT (aE (ih1 (i1+1) ⟨cV m_,h⟩) (aX J))
def Yi k{R}(h:qZ k=some R):cN aL 159 [bX k] (gp R):=by
 exact dL func159 J<|aV<|bn<|bA<|aB J<|M (gA (Y J) hI)<|aQ J<|aC J (cY J)<|aC J (fun H=>fR (br J H) hI)<|fV J<|bz J<|so h▸aD J J
def abU(b:Nat)(ix:OI) l{R}(h:lX l=some R):dj aL 113 [tV (an b 0)] (fW b l ix) (fun _:OI=>gp R.1) (fun j=>fW b R.2 j):=by
 refine dj.of func113 J J J fun w0 S0=>?_;refine(show CG _ _ _ [bx (rH bG [(1,ak (ix.h 0).1 (ix.h 0).2 l.j'.length),(2,ak (ix.h 1).1 (ix.h 1).2 l.D'.length)]) 145 b l,dM gG 40 (ix.h 0).1 (ix.h 0).2 l.j',fa bY 3 (ix.h 1).1 (ix.h 1).2 l.D'] _ from ?_);refine aV<|bn<|bA<|aB J<|aQ J<|M (aP (Y J))<|bI 3 jX J<|bI 7 oL J<|M (ay (r:=rH bG [(1,ak (ix.h 0).1 (ix.h 0).2 l.j'.length),(2,ak (ix.h 1).1 (ix.h 1).2 l.D'.length)]) (x:=l) bK J J (jD (gj ip gY)) (.head _) (Y J))<|M (aP (Y J))<|bI 17 iG J<|mD (gD bK J (Ac (hs' :=[(1,ak (ix.h 0).1 (ix.h 0).2 l.j'.length),(2,ak (ix.h 1).1 (ix.h 1).2 l.D'.length)]) vY ⟨.inr ⟨J,J⟩,.inr ⟨J,J⟩,aW⟩ J) J (Y J) (Y J)) fun i=>?_;refine(show RG _ _ _ _ [_,_,_] _ from ?_);refine bA<|aB J<|M (aP (Y J))<|bI 3 jX J<|bI 7 oL J<|M (ay (r:=rH bG [(1,ak (ix.h 0).1 (ix.h 0).2 l.j'.length),(2,ak (ix.h 1).1 (ix.h 1).2 l.D'.length)]) (x:=({l with B':=l.n.U'}:ap)) bK J J (jD (gj ip gY)) (.head _) (Y J))<|eG h TZ (EJ _ _) ⟨(Y J),(Ii adX fun x y h=>Yi _ h),aW⟩ fun r h=>M (gz (Y J))<|aU J<|aB J<|aQ J<|aj J (cY J)<|aj J (fun H=>aP (br J H))<|aj J (fun H=>bS (n:=3) jX J (br J H) J)<|aj J (fun H=>bS (n:=6) oM J (br J H) J)<|aj J (fun H=>ay (r:=rH bG [(1,ak (ix.h 0).1 (ix.h 0).2 l.j'.length),(2,ak (ix.h 1).1 (ix.h 1).2 l.D'.length)]) (x:=({l with B':=l.n.U'}:ap)) bN J J (jD (gj ip gC)) (.head _) (br J H)) ?_;refine aj J (fun H=>eT (br J H) hI)<|dx J<|aQ J<|aj J (cY J)<|aj J (fun H=>aP (br J H))<|aj J (fun H=>bS (n:=3) jX J (br J H) J)<|aj J (fun H=>bS (n:=6) oM J (br J H) J)<|aj J (fun H=>ay (r:=rH bG [(1,ak (ix.h 0).1 (ix.h 0).2 l.j'.length),(2,ak (ix.h 1).1 (ix.h 1).2 l.D'.length)]) (x:=({l with B':=l.n.U'}:ap)) bN J J (jD (gj ip gC)) (.head _) (br J H))<|aj J (fun H=>gA (br J H) hI)<|dx J<|aQ J<|aj J (cY J)<|aj J (fun H=>aP (br J H))<|aj J (fun H=>bS (n:=3) jX J (br J H) J)<|aj J (fun H=>bS (n:=7) oL J (br J H) J)<|aj J (fun H=>ay (r:=rH bG [(1,ak (ix.h 0).1 (ix.h 0).2 l.j'.length),(2,ak (ix.h 1).1 (ix.h 1).2 l.D'.length)]) (x:=({l with B':=l.n.U'}:ap)) bK J J (jD (gj ip gY)) (.head _) (br J H))<|aj J (fM dI J)<|aj J (fun H=>fR (br J H) hI)<|dx J<|aQ J<|aj J (cY J)<|aj J (fun H=>aP (br J H))<|aj J (fun H=>bS (n:=3) jX J (br J H) J)<|aj J (fun H=>bS (n:=7) oL J (br J H) J) ?_;exact aj J (fun H=>ay (r:=rH bG [(1,ak (ix.h 0).1 (ix.h 0).2 l.j'.length),(2,ak (ix.h 1).1 (ix.h 1).2 l.D'.length)]) (x:=({l with B':=l.n.U'}:ap)) bK J J (jD (gj ip gY)) (.head _) (br J H))<|aj J (fM dI J)<|aj J (fun H=>kZ (br J H) hI)<|dx J<|bz J<|ah<|ah<|ah<|so h▸fm J ix J J (fun _ _ h=>h)
def Yh k{R}(h:qz k=some R):cN aL 160 [bX k] (gp R):=by
 exact dL func160 J<|aV<|bn<|bA<|aB J<|M (gA (Y J) hI)<|aQ J<|aC J (cY J)<|aC J (fun H=>fR (br J H) hI)<|fV J<|bz J<|so h▸aD J J
def abT(b:Nat)(ix:OI) l{R}(h:jU l=some R):dj aL 114 [tV (an b 0)] (fW b l ix) (fun _:OI=>gp R.1) (fun j=>fW b R.2 j):=by
 refine dj.of func114 J J J fun w0 S0=>?_;refine(show CG _ _ _ [bx (rH bG [(1,ak (ix.h 0).1 (ix.h 0).2 l.j'.length),(2,ak (ix.h 1).1 (ix.h 1).2 l.D'.length)]) 145 b l,dM gG 40 (ix.h 0).1 (ix.h 0).2 l.j',fa bY 3 (ix.h 1).1 (ix.h 1).2 l.D'] _ from ?_);refine aV<|bn<|bA<|aB J<|aQ J<|M (aP (Y J))<|bI 3 jX J<|bI 7 oL J<|M (ay (r:=rH bG [(1,ak (ix.h 0).1 (ix.h 0).2 l.j'.length),(2,ak (ix.h 1).1 (ix.h 1).2 l.D'.length)]) (x:=l) bK J J (jD (gj ip gY)) (.head _) (Y J))<|M (aP (Y J))<|bI 17 iG J<|mD (gD bK J (Ac (hs' :=[(1,ak (ix.h 0).1 (ix.h 0).2 l.j'.length),(2,ak (ix.h 1).1 (ix.h 1).2 l.D'.length)]) vY ⟨.inr ⟨J,J⟩,.inr ⟨J,J⟩,aW⟩ J) J (Y J) (Y J)) fun i=>?_;refine(show RG _ _ _ _ [_,_,_] _ from ?_);refine bA<|aB J<|M (aP (Y J))<|bI 3 jX J<|bI 7 oL J<|M (ay (r:=rH bG [(1,ak (ix.h 0).1 (ix.h 0).2 l.j'.length),(2,ak (ix.h 1).1 (ix.h 1).2 l.D'.length)]) (x:=({l with B':=l.n.U'}:ap)) bK J J (jD (gj ip gY)) (.head _) (Y J))<|eG h TZ (EJ _ _) ⟨(Y J),(Ii adV fun x y h=>Yh _ h),aW⟩ fun r h=>M (gz (Y J))<|aU J<|aB J<|aQ J<|aj J (cY J)<|aj J (fun H=>aP (br J H))<|aj J (fun H=>bS (n:=3) jX J (br J H) J)<|aj J (fun H=>bS (n:=6) oM J (br J H) J)<|aj J (fun H=>ay (r:=rH bG [(1,ak (ix.h 0).1 (ix.h 0).2 l.j'.length),(2,ak (ix.h 1).1 (ix.h 1).2 l.D'.length)]) (x:=({l with B':=l.n.U'}:ap)) bN J J (jD (gj ip gC)) (.head _) (br J H)) ?_;refine aj J (fun H=>eT (br J H) hI)<|dx J<|aQ J<|aj J (cY J)<|aj J (fun H=>aP (br J H))<|aj J (fun H=>bS (n:=3) jX J (br J H) J)<|aj J (fun H=>bS (n:=6) oM J (br J H) J)<|aj J (fun H=>ay (r:=rH bG [(1,ak (ix.h 0).1 (ix.h 0).2 l.j'.length),(2,ak (ix.h 1).1 (ix.h 1).2 l.D'.length)]) (x:=({l with B':=l.n.U'}:ap)) bN J J (jD (gj ip gC)) (.head _) (br J H))<|aj J (fun H=>gA (br J H) hI)<|dx J<|aQ J<|aj J (cY J)<|aj J (fun H=>aP (br J H))<|aj J (fun H=>bS (n:=3) jX J (br J H) J)<|aj J (fun H=>bS (n:=7) oL J (br J H) J)<|aj J (fun H=>ay (r:=rH bG [(1,ak (ix.h 0).1 (ix.h 0).2 l.j'.length),(2,ak (ix.h 1).1 (ix.h 1).2 l.D'.length)]) (x:=({l with B':=l.n.U'}:ap)) bK J J (jD (gj ip gY)) (.head _) (br J H))<|aj J (fM dI J)<|aj J (fun H=>fR (br J H) hI)<|dx J<|aQ J<|aj J (cY J)<|aj J (fun H=>aP (br J H))<|aj J (fun H=>bS (n:=3) jX J (br J H) J)<|aj J (fun H=>bS (n:=7) oL J (br J H) J) ?_;exact aj J (fun H=>ay (r:=rH bG [(1,ak (ix.h 0).1 (ix.h 0).2 l.j'.length),(2,ak (ix.h 1).1 (ix.h 1).2 l.D'.length)]) (x:=({l with B':=l.n.U'}:ap)) bK J J (jD (gj ip gY)) (.head _) (br J H))<|aj J (fM dI J)<|aj J (fun H=>kZ (br J H) hI)<|dx J<|bz J<|ah<|ah<|ah<|so h▸fm J ix J J (fun _ _ h=>h)
def RL e j'{R}(h:nC e j'=some R):cN aL 161 [tD cg e,gM j'] (gp R):=by
 refine dL func161 J<|aV<|cR J<|bn<|bA<|aV<|cx jM J<|aQ J<|eG h H1 (zq _ _) (cA J) fun r h=>aQ J<|dq J J<|dq J J<|fX J<|aU J<|aB J<|cz J ?_;exact aQ J<|aj J (cY J)<|aj J (iu J)<|aj J (t8 J)<|cW J J J J (fun H=>kR J)<|cW J J J J (fun H=>fc (br J H) hI)<|aj J (fun H=>nh (br J H) (fun K=>(br J (wY H (sn K)))))<|dx J<|bz J<|so h▸aD J J
def abS(b:Nat)(ix:OI) l{R}(h:lY l=some R):dj aL 115 [tV (an b 0)] (fW b l ix) (fun _:OI=>gp R.1) (fun j=>fW b R.2 j):=by
 refine dj.of func115 J J J fun w0 S0=>?_;refine(show CG _ _ _ [bx (rH bG [(1,ak (ix.h 0).1 (ix.h 0).2 l.j'.length),(2,ak (ix.h 1).1 (ix.h 1).2 l.D'.length)]) 145 b l,dM gG 40 (ix.h 0).1 (ix.h 0).2 l.j',fa bY 3 (ix.h 1).1 (ix.h 1).2 l.D'] _ from ?_);refine aV<|bn<|bA<|aw<|cy h fun r F_ h=>?_;refine mS 13 (ts:=[tV (an b 0),tV (an b 0),tV (an b 0),tV (an b 15),gM l.a_,tV (an b 0),tV (an b 0),tV (an b 16),gM l.b,fI (gG) ([l.a_,l.b]),gM r,tV (an b 0),tV (an b 17)]) mixed J J J
  ⟨fg J J,
  ⟨fg J J,
  ⟨dy 4 1 J J (aP (Y J)),
  ⟨dy 5 2 J J (qd 15 lQ J J J),
  ⟨dy 6 3 J J (ay (r:=rH bG [(1,ak (ix.h 0).1 (ix.h 0).2 l.j'.length),(2,ak (ix.h 1).1 (ix.h 1).2 l.D'.length)]) (x:=l) bK J J (jD re) (.head _) (Y J)),
  ⟨fg J J,
  ⟨dy 8 5 J J (aP (Y J)),
  ⟨dy 9 6 J J (qd 16 Dx J J J),
  ⟨dy 10 7 J J (ay (r:=rH bG [(1,ak (ix.h 0).1 (ix.h 0).2 l.j'.length),(2,ak (ix.h 1).1 (ix.h 1).2 l.D'.length)]) (x:=l) bK J J (jD JK) (.head _) (Y J)),
  ⟨eQ 7 4 11 8 J J J (aI (r:=oQ) (ys:=[l.a_,l.b]) (xs:=[.tmp 7,.tmp 11]) qt bK J J J J J ⟨(Y J),(Y J),aW⟩),
  ⟨dy 12 9 J J (cq ZC (RP _ F_) ⟨(Y J),aW⟩),
  ⟨dy 3 0 J J (aP (Y J)),
  ⟨dy 14 11 J J (qd 17 iG J J J),
  aW⟩⟩⟩⟩⟩⟩⟩⟩⟩⟩⟩⟩⟩ ?_
 refine mD (gD bK J (Ac (hs' :=[(1,ak (ix.h 0).1 (ix.h 0).2 l.j'.length),(2,ak (ix.h 1).1 (ix.h 1).2 l.D'.length)]) vY ⟨.inr ⟨J,J⟩,.inr ⟨J,J⟩,aW⟩ J) J (Y J) (Y J)) fun i=>?_;refine(show RG _ _ _ _ [_,_,_] _ from ?_);refine bA<|aw<|cy h fun r1 Y_ h=>?_;refine eE (ts:=[_,_,_,_,_,_,_,_,_,_,_]) mixed J J
  ⟨fg J J,
  ⟨dy 16 0 J J (aP (Y J)),
  ⟨dy 17 1 J J (qd 3 jX J J J),
  ⟨dy 18 2 J J (qd 9 tK J J J),
  ⟨dy 19 3 J J (ay (r:=rH bG [(1,ak (ix.h 0).1 (ix.h 0).2 l.j'.length),(2,ak (ix.h 1).1 (ix.h 1).2 l.D'.length)]) (x:=({l with B':=r}:ap)) jM J J (jD (gj ip mK)) (.head _) (Y J)),
  ⟨fg J J,
  ⟨dy 21 5 J J (aP (Y J)),
  ⟨dy 22 6 J J (qd 17 iG J J J),
  ⟨dy 23 7 J J (ay (r:=rH bG [(1,ak (ix.h 0).1 (ix.h 0).2 l.j'.length),(2,ak (ix.h 1).1 (ix.h 1).2 l.D'.length)]) (x:=({l with B':=r}:ap)) bK J J (jD EH) (.head _) (Y J)),
  ⟨eQ 20 4 24 8 J J J (cq Zz (RL _ _ Y_) ⟨(Y J),(Y J),aW⟩),
  ⟨dy 25 9 J J (yO J),
  aW⟩⟩⟩⟩⟩⟩⟩⟩⟩⟩⟩ ?_
 exact ax<|kM<|ah<|ah<|ah<|so h▸fm J ix J J (fun _ _ h=>h)
def abR(b:Nat)(ix:OI) l{R}(h:ke l=some R):dj aL 116 [tV (an b 0)] (fW b l ix) (fun _:OI=>gp R.1) (fun j=>fW b R.2 j):=by
 refine dj.of func116 J J J fun w0 S0=>?_;refine(show CG _ _ _ [bx (rH bG [(1,ak (ix.h 0).1 (ix.h 0).2 l.j'.length),(2,ak (ix.h 1).1 (ix.h 1).2 l.D'.length)]) 145 b l,dM gG 40 (ix.h 0).1 (ix.h 0).2 l.j',fa bY 3 (ix.h 1).1 (ix.h 1).2 l.D'] _ from ?_);refine aV<|bn<|bA<|aB J<|aQ J<|M (aP (Y J))<|bI 15 lQ J<|M (ay (r:=rH bG [(1,ak (ix.h 0).1 (ix.h 0).2 l.j'.length),(2,ak (ix.h 1).1 (ix.h 1).2 l.D'.length)]) (x:=l) bK J J (jD re) (.head _) (Y J))<|M (aP (Y J))<|bI 17 iG J<|mD (gD bK J (Ac (hs' :=[(1,ak (ix.h 0).1 (ix.h 0).2 l.j'.length),(2,ak (ix.h 1).1 (ix.h 1).2 l.D'.length)]) vY ⟨.inr ⟨J,J⟩,.inr ⟨J,J⟩,aW⟩ J) J (Y J) (Y J)) fun i=>?_;refine(show RG _ _ _ _ [_,_,_] _ from ?_);refine bA<|aw<|cy h fun r F_ h=>?_;refine eE (ts:=[_,_,_,_,_,_,_,_,_,_,_]) mixed J J
  ⟨fg J J,
  ⟨dy 10 0 J J (aP (Y J)),
  ⟨dy 11 1 J J (qd 3 jX J J J),
  ⟨dy 12 2 J J (qd 9 tK J J J),
  ⟨dy 13 3 J J (ay (r:=rH bG [(1,ak (ix.h 0).1 (ix.h 0).2 l.j'.length),(2,ak (ix.h 1).1 (ix.h 1).2 l.D'.length)]) (x:=({l with B':=l.a_}:ap)) jM J J (jD (gj ip mK)) (.head _) (Y J)),
  ⟨fg J J,
  ⟨dy 15 5 J J (aP (Y J)),
  ⟨dy 16 6 J J (qd 15 lQ J J J),
  ⟨dy 17 7 J J (ay (r:=rH bG [(1,ak (ix.h 0).1 (ix.h 0).2 l.j'.length),(2,ak (ix.h 1).1 (ix.h 1).2 l.D'.length)]) (x:=({l with B':=l.a_}:ap)) bK J J (jD re) (.head _) (Y J)),
  ⟨eQ 14 4 18 8 J J J (cq Zz (RL _ _ F_) ⟨(Y J),(Y J),aW⟩),
  ⟨dy 19 9 J J (yO J),
  aW⟩⟩⟩⟩⟩⟩⟩⟩⟩⟩⟩ ?_
 exact ax<|kM<|ah<|ah<|ah<|so h▸fm J ix J J (fun _ _ h=>h)
def abQ(b:Nat)(ix:OI) l{R}(h:gv l=some R):dj aL 117 [tV (an b 0)] (fW b l ix) (fun _:OI=>gp R.1) (fun j=>fW b R.2 j):=by
 refine dj.of func117 J J J fun w0 S0=>?_;refine(show CG _ _ _ [bx (rH bG [(1,ak (ix.h 0).1 (ix.h 0).2 l.j'.length),(2,ak (ix.h 1).1 (ix.h 1).2 l.D'.length)]) 145 b l,dM gG 40 (ix.h 0).1 (ix.h 0).2 l.j',fa bY 3 (ix.h 1).1 (ix.h 1).2 l.D'] _ from ?_);refine aV<|bn<|bA<|aB J<|M (aP (Y J))<|bI 3 jX J<|M (ay (r:=rH bG [(1,ak (ix.h 0).1 (ix.h 0).2 l.j'.length),(2,ak (ix.h 1).1 (ix.h 1).2 l.D'.length)]) (x:=l) dc J J (jD ip) (.head _) (Y J))<|aO dc fC J fun b1=>bv dc ae J<|aH 3 J<|bA<|aV<|bg mf eV bK J<|cm dI J<|M (kZ (Y J) hI)<|aQ J<|aj J (cZ kI fH J J) ?_;refine aj J (cG tm J J)<|aj J (fM oP J)<|aj J (fun H=>kZ (br J H) hI)<|dx J<|aQ J<|aj J (cZ mf eV J J)<|aj J (cG bK J J)<|aj J (fM dI J)<|aj J (cZ kI fH J J)<|aj J (cG tm J J)<|aj J (fM oP J)<|aj J (fun H=>nT (br J H) (br J H))<|aj J (fun H=>fR (br J H) hI)<|dx J<|aU J<|aB J<|M (aP (Y J))<|bI 17 iG J<|cr false bY 3<|bM ?_;refine f9 bK J (wn (hs' :=[(1,ak (ix.h 0).1 (ix.h 0).2 l.j'.length),(2,ak (ix.h 1).1 (ix.h 1).2 l.D'.length)]) (oc _ _) ⟨.inr ⟨J,J⟩,.inr ⟨J,J⟩,aW⟩ J) J (Y J) (Ih (show aG _ _ _ WS from xq)) ?_;refine(show RG _ _ _ _ [_,_,_,_] _ from ?_);refine bA<|bc<|bg mf eV bK J<|cm dI J<|M (bH hI)<|bA<|am<|aR (k:=40) J fun hN=>bE<|gE<|fK<|fK<|fK ?_;refine aE (wS (h3:=fun ls i ob l1 c l2 c1 l3 c2=>(l.n.I'.drop i=ls)/\fY l ls ob=some R) (Of:=fun _ i ob l1 c l2 c1 l3 c2=>[bx (rH cE [(1,ak l1 c ob.j'.length),(2,ak l2 c1 ob.D'.length)]) 145 b (db ob (ak l3 c2 ob.B'.length)),dM gG 40 l1 c ob.j',fa bY 3 l2 c1 ob.D',fa bY 3 l3 c2 ob.B']) (Gf:=fun _ i ob l1 c l2 c1 l3 c2=>[(0,tV (an b 0)),(3,aY al l.n),(4,gp (((decide ((l.n.I'.length:Int)<=3))&&(decide ((l.n.L'.length:Int)<=12)))&&(decide (0<(i64.wrap ((l.n.I'.length:Int)+(l.n.L'.length:Int))))))),(40,gM l.n.I'),(41,jg l.n.I'),(42,bX (i:Int))]) (fun i ob l1 c l2 c1 l3 c2 h=>?_) (fun e tl ih i ob l1 c l2 c1 l3 c2 h=>?_) l.n.I' 0 ({l with B':=vH}:ap) (ix.h 0).1 (ix.h 0).2 (ix.h 1).1 (ix.h 1).2 none 0 ⟨J,h⟩) (aX J)
 ·obtain⟨I,h⟩:=h;refine dH I J<|ax<|bc<|bg kI fH tm J<|cm oP J<|M (bH hI)<|bA<|am<|aR (k:=75) J fun hN1=>?_;refine bE ?_;refine aE (DX (h3:=fun ls1 i1 ok v_ l4 c3 l5 c4 l6 c5=>(l.n.L'.drop i1=ls1)/\cP ls1 ok v_=some R) (Of:=fun _ i1 ok v_ l4 c3 l5 c4 l6 c5=>[bx (rH cE [(1,ak l4 c3 v_.j'.length),(2,ak l5 c4 v_.D'.length)]) 145 b (db v_ (ak l6 c5 v_.B'.length)),dM gG 40 l4 c3 v_.j',fa bY 3 l5 c4 v_.D',fa bY 3 l6 c5 v_.B']) (Gf:=fun _ i1 ok v_ l4 c3 l5 c4 l6 c5=>[(0,tV (an b 0)),(4,gp ok),(75,fI (eg) l.n.L'),(76,jg l.n.L'),(77,bX (i1:Int))]) (fun i1 ok v_ l4 c3 l5 c4 l6 c5 h=>?_) (fun e1 tl1 ih1 i1 ok v_ l4 c3 l5 c4 l6 c5 h=>?_) l.n.L' 0 (((decide ((l.n.I'.length:Int)<=3))&&(decide ((l.n.L'.length:Int)<=12)))&&(decide (0<(i64.wrap ((l.n.I'.length:Int)+(l.n.L'.length:Int)))))) ob l1 c l2 c1 l3 c2 ⟨J,h⟩) (aX J)
  ·obtain⟨m_,h⟩:=h;refine dH m_ J<|ax<|aB J<|bz J<|aM<|gQ<|bj<|xR (r' :=rH bG [(1,ak l4 c3 v_.j'.length),(2,ak l5 c4 v_.D'.length)]) (x' :=v_) (fun _ _ _ ho h=>YP h (fun h=>kK (nM ho (.head _)) h)) ?_;exact bj<|aJ<|ah<|ah<|ah<|so h▸fm J (D8 [(l4,c3),(l5,c4)]) J J (fun _ _ h=>h)
  ·obtain⟨m_,h⟩:=h;refine dG m_ J<|aw<|am<|aV<|dN oP oT J (dE m_)<|aO oT vo J fun b2=>bv oT ae J<|aH 8 J<|bA<|aV<|cM ?_;refine bA ?_;refine J0 (h3:=fun ok1 k=>fZ (cP tl1) v_ ok1 k=some R) (Of:=fun ok1 k=>[bx (rH cE [(1,ak l4 c3 v_.j'.length),(2,ak l5 c4 v_.D'.length)]) 145 b (db v_ (ak l6 c5 v_.B'.length)),dM gG 40 l4 c3 v_.j',fa bY 3 l5 c4 v_.D',fa bY 3 l6 c5 v_.B']) (Gf:=fun ok1 k=>[(0,tV (an b 0)),(4,gp ok1),(9,bX k),(75,fI (eg) l.n.L'),(76,jg l.n.L'),(77,bX (i1:Int))]) (fun ok1 k h=>?_) (fun hb=>?_)
   ·skip;refine au<|aQ J<|aQ J<|M (aP (Y J))<|bI 17 iG J<|M (jH bK (jD ov) (.head _) J (Y J))<|aQ J<|M (aI (r:=bY) (ys:=[k]) (xs:=[.tmp 139]) dI bN J J J J J ⟨(Y J),aW⟩)<|eh<|cy h fun l7 q_l7 h=>ea bN J J J J dI J J (Y J) (Y J) q_l7 fun l8 c6=>M (aP (Y J))<|bI 17 iG J<|bM<|f9 bK J (wn (hs' :=[(1,ak l4 c3 v_.j'.length),(2,ak l5 c4 v_.D'.length)]) (kN _ _ _) ⟨.inr ⟨J,J⟩,.inr ⟨J,J⟩,aW⟩ J) J (Y J) (Ih (Y J)) ?_;refine(show RG _ _ _ _ [_,_,_,_] _ from ?_);refine bm<|dg m_ hN1 J<|bj<|aM<|aM<|aM ?_;exact aT (aE (ih1 (i1+1) ok1 ({v_ with B':=l7}:ap) l4 c3 l5 c4 l8 c6 ⟨cV m_,h⟩) (aX J))
   ·skip;refine aV<|bg rq mR bN J<|cz J<|cD h J (fun h=>?_) (fun h=>?_)
    ·refine au<|aQ J<|aQ J<|aj J (cZ xO rK J J)<|aj J (fun H=>dP gI J dF J (br J H))<|aj J (cG pC J J)<|aj J (fM oD J)<|aj J (iu J)<|dx J<|fX J<|bm ?_;exact bQ (hb (ok&&((e1.N_.u'.length:Int)==0)) 2 h) (aX J)
    ·refine aw<|cy h fun r F_ h=>?_;refine eE (ts:=[_,_,_,_,_,_,_,_,_,_,_,_]) mixed J J
      ⟨oU 8 J J (mj xO rK J J),
      ⟨gH 0 jM J J,
      ⟨fg J J,
      ⟨dy 95 2 J J (aP (Y J)),
      ⟨dy 96 3 J J (qd 15 lQ J J J),
      ⟨dy 97 4 J J (ay (r:=rH cE [(1,ak l4 c3 v_.j'.length),(2,ak l5 c4 v_.D'.length)]) (x:=db v_ (ak l6 c5 v_.B'.length)) bK J J (jD m7) (.head _) (Y J)),
      ⟨eQ 94 1 98 5 J J J (cq H1 (zq _ _ F_) ⟨(Y J),(Y J),aW⟩),
      ⟨dy 99 6 J J (kR J),
      ⟨dy 92 7 J J (Sw J J),
      ⟨dy 92 7 J J (Sw J J),
      ⟨dy 100 8 J J (yO J),
      ⟨dy 101 9 J J (yO J),
      aW⟩⟩⟩⟩⟩⟩⟩⟩⟩⟩⟩⟩ ?_
     refine ax<|aB J<|aQ J<|aj J (cY J)<|aj J (iu J)<|dx J<|aQ J<|aj J (cZ rq mR J J)<|aj J (cG bN J J)<|aj J (fun H=>fR (br J H) hI)<|dx J<|aQ J<|aj J (cZ rq mR J J)<|aj J (cG bN J J)<|aj J (fun H=>kZ (br J H) hI)<|dx J<|aU J<|aV<|qx rq mR J ?_;refine cx bN J<|bA<|am<|aV<|cz J<|aU J<|oS h J (fun h=>?_) (fun h=>?_)
     ·refine au<|aQ J<|aQ J<|aj J (cY J)<|aj J (iu J)<|aj J (t8 J)<|cW J J J J (fun H=>kR J)<|cW J J J J (fun H=>fc (br J H) hI)<|aj J (fun H=>nh (br J H) (fun K=>(br J (wY H (sn K)))))<|dx J<|fX J<|bm<|bf ?_;exact bQ (hb ((((ok&&(r.2==0))&&(decide (1<e1.Tag)))&&(decide (e1.Tag<=5)))&&((r.1==2)||(r.1==0))) 2 h) (aX J)
     ·refine fL (h3:=fun x=>j4 (cP tl1) e1 ok v_ r x=some R) (Of:=fun x=>[bx (rH cE [(1,ak l4 c3 v_.j'.length),(2,ak l5 c4 v_.D'.length)]) 145 b (db v_ (ak l6 c5 v_.B'.length)),dM gG 40 l4 c3 v_.j',fa bY 3 l5 c4 v_.D',fa bY 3 l6 c5 v_.B']) (Gf:=fun x=>[(0,tV (an b 0)),(4,gp (((ok&&(r.2==0))&&(decide (1<e1.Tag)))&&(decide (e1.Tag<=5)))),(9,bX 2),(10,bX r.1),(75,fI (eg) l.n.L'),(76,jg l.n.L'),(77,bX (i1:Int)),(130,gp x)]) (fun x h=>?_) (fun K1=>?_)
      ·skip;refine oS h J (fun h=>?_) (fun h=>?_)
       ·refine au<|aQ J<|fX J<|bm<|bf ?_;exact bQ (hb (((ok&&(r.2==0))&&(decide (1<e1.Tag)))&&(decide (e1.Tag<=5))) r.1 h) (aX J)
       ·refine bl<|bf ?_;exact bQ (hb (((ok&&(r.2==0))&&(decide (1<e1.Tag)))&&(decide (e1.Tag<=5))) 2 h) (aX J)
      ·skip;refine aV<|cz J<|aU J<|oS h J (fun h=>?_) (fun h=>?_)
       ·refine bl ?_;exact bQ (K1 (e1.Tag==4) h) (aX J)
       ·refine au<|cz J<|fX J<|bm ?_;exact bQ (K1 (e1.Tag==5) h) (aX J)
 ·obtain⟨I,h⟩:=h;refine dG I J<|aw<|am<|aV<|dN dI bN J (dE I)<|aU J<|bc<|aQ J<|M (gA (Y J) hI) ?_;refine aQ J<|aC J (cY J)<|aC J (cY J)<|aC J (fun H=>aP (br J H))<|aC J (fun H=>bS (n:=15) lQ J (br J H) J)<|aC J (fun H=>ay (r:=rH cE [(1,ak l1 c ob.j'.length),(2,ak l2 c1 ob.D'.length)]) (x:=db ob (ak l3 c2 ob.B'.length)) bK J J (jD m7) (.head _) (br J H))<|aC J (fM dI J)<|aC J (fun H=>eT (br J H) (br J H))<|fV J<|cD h J (fun h=>?_) (fun h=>?_)
  ·exact aV<|bn<|bO<|ai<|dB<|ai<|dB<|aM<|gQ<|bj<|xR (r' :=rH bG [(1,ak l1 c ob.j'.length),(2,ak l2 c1 ob.D'.length)]) (x' :=ob) (fun _ _ _ ho h=>YP h (fun h=>kK (nM ho (.head _)) h))<|bj<|aJ<|ah<|ah<|ah<|so h▸fm J (D8 [(l1,c),(l2,c1)]) J J (fun _ _ h=>h)
  ·refine kp<|cy h fun e2 M_ h=>cy h fun l9 q_l9 h=>?_;refine lw 14 [tc (tV (an b 0)),tc (tV (an b 0)),tc (tV (an b 0)),tc (tV (an b 17)),tc (s5 l3 c2 ob.B'),tc (tV (an b 0)),tc (tV (an b 0)),tc (tV (an b 15)),tc (gM ob.a_),tc (bX e),tc (aY bY e2),tc (bX e2),tc (gM ([e2])),([13],fun s=>tV (ak ((s.getD 0 rs).h 0).1 ((s.getD 0 rs).h 0).2 l9.length))] [false,false,false,false,false,false,false,false,false,false,false,false,false,true] [fun _=>[bx (rH cE [(1,ak l1 c ob.j'.length),(2,ak l2 c1 ob.D'.length)]) 145 b (db ob (ak l3 c2 ob.B'.length)),dM gG 40 l1 c ob.j',fa bY 3 l2 c1 ob.D',fa bY 3 l3 c2 ob.B'],fun sg=>[fa bY 3 ((sg 13).h 0).1 ((sg 13).h 0).2 l9,bx (rH cE [(1,ak l1 c ob.j'.length),(2,ak l2 c1 ob.D'.length)]) 145 b (db ob (ak l3 c2 ob.B'.length)),dM gG 40 l1 c ob.j',fa bY 3 l2 c1 ob.D']] J mixed J J J J J
    ⟨⟨[⟨0,fun _=>tV (an b 0),none⟩],_,0,1,J,⟨(fun _=>J),aW⟩,J,J,J,J,J,fun _ sg _ _=>aa J (kR J)⟩,
    ⟨⟨[⟨0,fun _=>tV (an b 0),none⟩],_,0,0,J,⟨(fun _=>J),aW⟩,J,J,J,J,J,fun _ sg _ _=>aa J (kR J)⟩,
    ⟨⟨[⟨58,fun _=>tV (an b 0),some 1⟩],_,0,0,J,⟨(fun _=>J),aW⟩,J,J,J,J,J,fun _ sg _ _=>aa J (aP (Y J))⟩,
    ⟨⟨[⟨59,fun _=>tV (an b 0),some 2⟩],_,0,0,J,⟨(fun _=>J),aW⟩,J,J,J,J,J,fun _ sg _ _=>aa J (qd 17 iG J J J)⟩,
    ⟨⟨[⟨60,fun _=>tV (an b 17),some 3⟩],_,0,0,J,⟨(fun _=>J),aW⟩,J,J,J,J,J,vI (fun sg=>aa J (jH bK (jD ov) (.head _) J (Y J)))⟩,
    ⟨⟨[⟨0,fun _=>tV (an b 0),none⟩],_,0,0,J,⟨(fun _=>J),aW⟩,J,J,J,J,J,fun _ sg _ _=>aa J (kR J)⟩,
    ⟨⟨[⟨62,fun _=>tV (an b 0),some 5⟩],_,0,0,J,⟨(fun _=>J),aW⟩,J,J,J,J,J,fun _ sg _ _=>aa J (aP (Y J))⟩,
    ⟨⟨[⟨63,fun _=>tV (an b 0),some 6⟩],_,0,0,J,⟨(fun _=>J),aW⟩,J,J,J,J,J,fun _ sg _ _=>aa J (qd 15 lQ J J J)⟩,
    ⟨⟨[⟨64,fun _=>tV (an b 15),some 7⟩],_,0,0,J,⟨(fun _=>J),aW⟩,J,J,J,J,J,vI (fun sg=>aa J (ay (r:=rH cE [(1,ak l1 c ob.j'.length),(2,ak l2 c1 ob.D'.length)]) (x:=db ob (ak l3 c2 ob.B'.length)) bK J J (jD m7) (.head _) (Y J)))⟩,
    ⟨⟨[⟨6,fun _=>tD bY e,none⟩],_,0,0,J,⟨(fun _=>J),aW⟩,J,J,J,J,J,fun _ sg _ _=>aa J (kR J)⟩,
    ⟨⟨[⟨65,fun _=>tD oQ ob.a_,some 8⟩,⟨66,fun _=>tD bY e,some 9⟩],_,0,0,J,⟨(fun _=>J),(fun _=>J),aW⟩,J,J,J,J,J,fun _ sg _ _=>aa J (GN dI bN J J J M_)⟩,
    ⟨⟨[⟨67,fun _=>aY bY e2,some 10⟩],_,0,0,J,⟨(fun _=>J),aW⟩,J,J,J,J,J,fun _ sg _ _=>aa J (m9 bN J J)⟩,
    ⟨⟨[⟨68,fun _=>tD bY e2,some 11⟩],_,0,0,J,⟨(fun _=>J),aW⟩,J,J,J,J,J,fun _ sg _ _=>aa J (aI (r:=bY) (ys:=[e2]) (xs:=[.tmp 68]) dI bN J J J J J ⟨(Y J),aW⟩)⟩,
    ⟨⟨[⟨61,fun _=>tV (ak l3 c2 ob.B'.length),some 4⟩,⟨69,fun _=>tD oQ ([e2]),some 12⟩],_,J,⟨(fun _=>J),(fun _=>J),aW⟩,J,J,J,fun sg=>cL J (fr3 (AK bN J J J J dI J (Y J) (Y J) q_l9))⟩,
    aW⟩⟩⟩⟩⟩⟩⟩⟩⟩⟩⟩⟩⟩⟩ (fun sg=>?_)
   refine(show RG _ _ _ _ [_,_,_,_] _ from ?_);refine M (aP (Y J))<|bI 17 iG J<|bM<|f9 bK J (wn (hs' :=[(1,ak l1 c ob.j'.length),(2,ak l2 c1 ob.D'.length)]) (kN _ _ _) ⟨.inr ⟨J,J⟩,.inr ⟨J,J⟩,aW⟩ J) J (Y J) (Ih (Y J)) ?_;refine(show RG _ _ _ _ [_,_,_,_] _ from ?_);refine bm<|dg I hN J<|bj<|aM<|aM<|aM ?_;exact aT (aE (ih (i+1) ({ob with B':=l9}:ap) l1 c l2 c1 ((sg 13).h 0).1 ((sg 13).h 0).2 ⟨cV I,h⟩) (aX J))
def abP(b:Nat)(ix:OI) l{R}(h:gv l=some R):dj aL 117 [tV (an b 0)] (fW b l ix) (fun _:OI=>gp R.1) (fun j=>aaG b R.2 j):=by
 refine dj.of func117 J J J fun w0 S0=>?_;refine(show CG _ _ _ [bx (rH bG [(1,ak (ix.h 0).1 (ix.h 0).2 l.j'.length),(2,ak (ix.h 1).1 (ix.h 1).2 l.D'.length)]) 145 b l,dM gG 40 (ix.h 0).1 (ix.h 0).2 l.j',fa bY 3 (ix.h 1).1 (ix.h 1).2 l.D'] _ from ?_);refine aV<|bn<|bA<|aB J<|M (aP (Y J))<|bI 3 jX J<|M (ay (r:=rH bG [(1,ak (ix.h 0).1 (ix.h 0).2 l.j'.length),(2,ak (ix.h 1).1 (ix.h 1).2 l.D'.length)]) (x:=l) dc J J (jD ip) (.head _) (Y J))<|aO dc fC J fun b1=>bv dc ae J<|aH 3 J<|bA<|aV<|bg mf eV bK J<|cm dI J<|M (kZ (Y J) hI)<|aQ J<|aj J (cZ kI fH J J) ?_;refine aj J (cG tm J J)<|aj J (fM oP J)<|aj J (fun H=>kZ (br J H) hI)<|dx J<|aQ J<|aj J (cZ mf eV J J)<|aj J (cG bK J J)<|aj J (fM dI J)<|aj J (cZ kI fH J J)<|aj J (cG tm J J)<|aj J (fM oP J)<|aj J (fun H=>nT (br J H) (br J H))<|aj J (fun H=>fR (br J H) hI)<|dx J<|aU J<|aB J<|M (aP (Y J))<|bI 17 iG J<|cr false bY 3<|bM ?_;refine f9 bK J (wn (hs' :=[(1,ak (ix.h 0).1 (ix.h 0).2 l.j'.length),(2,ak (ix.h 1).1 (ix.h 1).2 l.D'.length)]) (oc _ _) ⟨.inr ⟨J,J⟩,.inr ⟨J,J⟩,aW⟩ J) J (Y J) (Ih (show aG _ _ _ WS from xq)) ?_;refine(show RG _ _ _ _ [_,_,_,_] _ from ?_);refine bA<|bc<|bg mf eV bK J<|cm dI J<|M (bH hI)<|bA<|am<|aR (k:=40) J fun hN=>bE<|gE<|fK<|fK<|fK ?_;refine aE (wS (h3:=fun ls i ob l1 c l2 c1 l3 c2=>(l.n.I'.drop i=ls)/\fY l ls ob=some R) (Of:=fun _ i ob l1 c l2 c1 l3 c2=>[bx (rH cE [(1,ak l1 c ob.j'.length),(2,ak l2 c1 ob.D'.length)]) 145 b (db ob (ak l3 c2 ob.B'.length)),dM gG 40 l1 c ob.j',fa bY 3 l2 c1 ob.D',fa bY 3 l3 c2 ob.B']) (Gf:=fun _ i ob l1 c l2 c1 l3 c2=>[(0,tV (an b 0)),(3,aY al l.n),(4,gp (((decide ((l.n.I'.length:Int)<=3))&&(decide ((l.n.L'.length:Int)<=12)))&&(decide (0<(i64.wrap ((l.n.I'.length:Int)+(l.n.L'.length:Int))))))),(40,gM l.n.I'),(41,jg l.n.I'),(42,bX (i:Int))]) (fun i ob l1 c l2 c1 l3 c2 h=>?_) (fun e tl ih i ob l1 c l2 c1 l3 c2 h=>?_) l.n.I' 0 ({l with B':=vH}:ap) (ix.h 0).1 (ix.h 0).2 (ix.h 1).1 (ix.h 1).2 none 0 ⟨J,h⟩) (aX J)
 ·obtain⟨I,h⟩:=h;refine dH I J<|ax<|bc<|bg kI fH tm J<|cm oP J<|M (bH hI)<|bA<|am<|aR (k:=75) J fun hN1=>?_;refine bE ?_;refine aE (DX (h3:=fun ls1 i1 ok v_ l4 c3 l5 c4 l6 c5=>(l.n.L'.drop i1=ls1)/\cP ls1 ok v_=some R) (Of:=fun _ i1 ok v_ l4 c3 l5 c4 l6 c5=>[bx (rH cE [(1,ak l4 c3 v_.j'.length),(2,ak l5 c4 v_.D'.length)]) 145 b (db v_ (ak l6 c5 v_.B'.length)),dM gG 40 l4 c3 v_.j',fa bY 3 l5 c4 v_.D',fa bY 3 l6 c5 v_.B']) (Gf:=fun _ i1 ok v_ l4 c3 l5 c4 l6 c5=>[(0,tV (an b 0)),(4,gp ok),(75,fI (eg) l.n.L'),(76,jg l.n.L'),(77,bX (i1:Int))]) (fun i1 ok v_ l4 c3 l5 c4 l6 c5 h=>?_) (fun e1 tl1 ih1 i1 ok v_ l4 c3 l5 c4 l6 c5 h=>?_) l.n.L' 0 (((decide ((l.n.I'.length:Int)<=3))&&(decide ((l.n.L'.length:Int)<=12)))&&(decide (0<(i64.wrap ((l.n.I'.length:Int)+(l.n.L'.length:Int)))))) ob l1 c l2 c1 l3 c2 ⟨J,h⟩) (aX J)
  ·obtain⟨m_,h⟩:=h;exact dH m_ J<|ax<|aB J<|bz J<|aM<|aM<|aM<|aM<|so h▸fm J (D8 [(l4,c3),(l5,c4),(l6,c5)]) J J (fun _ _ h=>h)
  ·obtain⟨m_,h⟩:=h;refine dG m_ J<|aw<|am<|aV<|dN oP oT J (dE m_)<|aO oT vo J fun b2=>bv oT ae J<|aH 8 J<|bA<|aV<|cM ?_;refine bA ?_;refine J0 (h3:=fun ok1 k=>fZ (cP tl1) v_ ok1 k=some R) (Of:=fun ok1 k=>[bx (rH cE [(1,ak l4 c3 v_.j'.length),(2,ak l5 c4 v_.D'.length)]) 145 b (db v_ (ak l6 c5 v_.B'.length)),dM gG 40 l4 c3 v_.j',fa bY 3 l5 c4 v_.D',fa bY 3 l6 c5 v_.B']) (Gf:=fun ok1 k=>[(0,tV (an b 0)),(4,gp ok1),(9,bX k),(75,fI (eg) l.n.L'),(76,jg l.n.L'),(77,bX (i1:Int))]) (fun ok1 k h=>?_) (fun hb=>?_)
   ·skip;refine au<|aQ J<|aQ J<|M (aP (Y J))<|bI 17 iG J<|M (jH bK (jD ov) (.head _) J (Y J))<|aQ J<|M (aI (r:=bY) (ys:=[k]) (xs:=[.tmp 139]) dI bN J J J J J ⟨(Y J),aW⟩)<|eh<|cy h fun l7 q_l7 h=>ea bN J J J J dI J J (Y J) (Y J) q_l7 fun l8 c6=>M (aP (Y J))<|bI 17 iG J<|bM<|f9 bK J (wn (hs' :=[(1,ak l4 c3 v_.j'.length),(2,ak l5 c4 v_.D'.length)]) (kN _ _ _) ⟨.inr ⟨J,J⟩,.inr ⟨J,J⟩,aW⟩ J) J (Y J) (Ih (Y J)) ?_;refine(show RG _ _ _ _ [_,_,_,_] _ from ?_);refine bm<|dg m_ hN1 J<|bj<|aM<|aM<|aM ?_;exact aT (aE (ih1 (i1+1) ok1 ({v_ with B':=l7}:ap) l4 c3 l5 c4 l8 c6 ⟨cV m_,h⟩) (aX J))
   ·skip;refine aV<|bg rq mR bN J<|cz J<|cD h J (fun h=>?_) (fun h=>?_)
    ·refine au<|aQ J<|aQ J<|aj J (cZ xO rK J J)<|aj J (fun H=>dP gI J dF J (br J H))<|aj J (cG pC J J)<|aj J (fM oD J)<|aj J (iu J)<|dx J<|fX J<|bm ?_;exact bQ (hb (ok&&((e1.N_.u'.length:Int)==0)) 2 h) (aX J)
    ·refine aw<|cy h fun r F_ h=>?_;refine eE (ts:=[_,_,_,_,_,_,_,_,_,_,_,_]) mixed J J
      ⟨oU 8 J J (mj xO rK J J),
      ⟨gH 0 jM J J,
      ⟨fg J J,
      ⟨dy 95 2 J J (aP (Y J)),
      ⟨dy 96 3 J J (qd 15 lQ J J J),
      ⟨dy 97 4 J J (ay (r:=rH cE [(1,ak l4 c3 v_.j'.length),(2,ak l5 c4 v_.D'.length)]) (x:=db v_ (ak l6 c5 v_.B'.length)) bK J J (jD m7) (.head _) (Y J)),
      ⟨eQ 94 1 98 5 J J J (cq H1 (zq _ _ F_) ⟨(Y J),(Y J),aW⟩),
      ⟨dy 99 6 J J (kR J),
      ⟨dy 92 7 J J (Sw J J),
      ⟨dy 92 7 J J (Sw J J),
      ⟨dy 100 8 J J (yO J),
      ⟨dy 101 9 J J (yO J),
      aW⟩⟩⟩⟩⟩⟩⟩⟩⟩⟩⟩⟩ ?_
     refine ax<|aB J<|aQ J<|aj J (cY J)<|aj J (iu J)<|dx J<|aQ J<|aj J (cZ rq mR J J)<|aj J (cG bN J J)<|aj J (fun H=>fR (br J H) hI)<|dx J<|aQ J<|aj J (cZ rq mR J J)<|aj J (cG bN J J)<|aj J (fun H=>kZ (br J H) hI)<|dx J<|aU J<|aV<|qx rq mR J ?_;refine cx bN J<|bA<|am<|aV<|cz J<|aU J<|oS h J (fun h=>?_) (fun h=>?_)
     ·refine au<|aQ J<|aQ J<|aj J (cY J)<|aj J (iu J)<|aj J (t8 J)<|cW J J J J (fun H=>kR J)<|cW J J J J (fun H=>fc (br J H) hI)<|aj J (fun H=>nh (br J H) (fun K=>(br J (wY H (sn K)))))<|dx J<|fX J<|bm<|bf ?_;exact bQ (hb ((((ok&&(r.2==0))&&(decide (1<e1.Tag)))&&(decide (e1.Tag<=5)))&&((r.1==2)||(r.1==0))) 2 h) (aX J)
     ·refine fL (h3:=fun x=>j4 (cP tl1) e1 ok v_ r x=some R) (Of:=fun x=>[bx (rH cE [(1,ak l4 c3 v_.j'.length),(2,ak l5 c4 v_.D'.length)]) 145 b (db v_ (ak l6 c5 v_.B'.length)),dM gG 40 l4 c3 v_.j',fa bY 3 l5 c4 v_.D',fa bY 3 l6 c5 v_.B']) (Gf:=fun x=>[(0,tV (an b 0)),(4,gp (((ok&&(r.2==0))&&(decide (1<e1.Tag)))&&(decide (e1.Tag<=5)))),(9,bX 2),(10,bX r.1),(75,fI (eg) l.n.L'),(76,jg l.n.L'),(77,bX (i1:Int)),(130,gp x)]) (fun x h=>?_) (fun K1=>?_)
      ·skip;refine oS h J (fun h=>?_) (fun h=>?_)
       ·refine au<|aQ J<|fX J<|bm<|bf ?_;exact bQ (hb (((ok&&(r.2==0))&&(decide (1<e1.Tag)))&&(decide (e1.Tag<=5))) r.1 h) (aX J)
       ·refine bl<|bf ?_;exact bQ (hb (((ok&&(r.2==0))&&(decide (1<e1.Tag)))&&(decide (e1.Tag<=5))) 2 h) (aX J)
      ·skip;refine aV<|cz J<|aU J<|oS h J (fun h=>?_) (fun h=>?_)
       ·refine bl ?_;exact bQ (K1 (e1.Tag==4) h) (aX J)
       ·refine au<|cz J<|fX J<|bm ?_;exact bQ (K1 (e1.Tag==5) h) (aX J)
 ·obtain⟨I,h⟩:=h;refine dG I J<|aw<|am<|aV<|dN dI bN J (dE I)<|aU J<|bc<|aQ J<|M (gA (Y J) hI) ?_;refine aQ J<|aC J (cY J)<|aC J (cY J)<|aC J (fun H=>aP (br J H))<|aC J (fun H=>bS (n:=15) lQ J (br J H) J)<|aC J (fun H=>ay (r:=rH cE [(1,ak l1 c ob.j'.length),(2,ak l2 c1 ob.D'.length)]) (x:=db ob (ak l3 c2 ob.B'.length)) bK J J (jD m7) (.head _) (br J H))<|aC J (fM dI J)<|aC J (fun H=>eT (br J H) (br J H))<|fV J<|cD h J (fun h=>?_) (fun h=>?_)
  ·exact aV<|bn<|bO<|ai<|dB<|ai<|dB<|aM<|aM<|aM<|aM<|so h▸fm J (D8 [(l1,c),(l2,c1),(l3,c2)]) J J (fun _ _ h=>h)
  ·refine kp<|cy h fun e2 M_ h=>cy h fun l9 q_l9 h=>?_;refine lw 14 [tc (tV (an b 0)),tc (tV (an b 0)),tc (tV (an b 0)),tc (tV (an b 17)),tc (s5 l3 c2 ob.B'),tc (tV (an b 0)),tc (tV (an b 0)),tc (tV (an b 15)),tc (gM ob.a_),tc (bX e),tc (aY bY e2),tc (bX e2),tc (gM ([e2])),([13],fun s=>tV (ak ((s.getD 0 rs).h 0).1 ((s.getD 0 rs).h 0).2 l9.length))] [false,false,false,false,false,false,false,false,false,false,false,false,false,true] [fun _=>[bx (rH cE [(1,ak l1 c ob.j'.length),(2,ak l2 c1 ob.D'.length)]) 145 b (db ob (ak l3 c2 ob.B'.length)),dM gG 40 l1 c ob.j',fa bY 3 l2 c1 ob.D',fa bY 3 l3 c2 ob.B'],fun sg=>[fa bY 3 ((sg 13).h 0).1 ((sg 13).h 0).2 l9,bx (rH cE [(1,ak l1 c ob.j'.length),(2,ak l2 c1 ob.D'.length)]) 145 b (db ob (ak l3 c2 ob.B'.length)),dM gG 40 l1 c ob.j',fa bY 3 l2 c1 ob.D']] J mixed J J J J J
    ⟨⟨[⟨0,fun _=>tV (an b 0),none⟩],_,0,1,J,⟨(fun _=>J),aW⟩,J,J,J,J,J,fun _ sg _ _=>aa J (kR J)⟩,
    ⟨⟨[⟨0,fun _=>tV (an b 0),none⟩],_,0,0,J,⟨(fun _=>J),aW⟩,J,J,J,J,J,fun _ sg _ _=>aa J (kR J)⟩,
    ⟨⟨[⟨58,fun _=>tV (an b 0),some 1⟩],_,0,0,J,⟨(fun _=>J),aW⟩,J,J,J,J,J,fun _ sg _ _=>aa J (aP (Y J))⟩,
    ⟨⟨[⟨59,fun _=>tV (an b 0),some 2⟩],_,0,0,J,⟨(fun _=>J),aW⟩,J,J,J,J,J,fun _ sg _ _=>aa J (qd 17 iG J J J)⟩,
    ⟨⟨[⟨60,fun _=>tV (an b 17),some 3⟩],_,0,0,J,⟨(fun _=>J),aW⟩,J,J,J,J,J,vI (fun sg=>aa J (jH bK (jD ov) (.head _) J (Y J)))⟩,
    ⟨⟨[⟨0,fun _=>tV (an b 0),none⟩],_,0,0,J,⟨(fun _=>J),aW⟩,J,J,J,J,J,fun _ sg _ _=>aa J (kR J)⟩,
    ⟨⟨[⟨62,fun _=>tV (an b 0),some 5⟩],_,0,0,J,⟨(fun _=>J),aW⟩,J,J,J,J,J,fun _ sg _ _=>aa J (aP (Y J))⟩,
    ⟨⟨[⟨63,fun _=>tV (an b 0),some 6⟩],_,0,0,J,⟨(fun _=>J),aW⟩,J,J,J,J,J,fun _ sg _ _=>aa J (qd 15 lQ J J J)⟩,
    ⟨⟨[⟨64,fun _=>tV (an b 15),some 7⟩],_,0,0,J,⟨(fun _=>J),aW⟩,J,J,J,J,J,vI (fun sg=>aa J (ay (r:=rH cE [(1,ak l1 c ob.j'.length),(2,ak l2 c1 ob.D'.length)]) (x:=db ob (ak l3 c2 ob.B'.length)) bK J J (jD m7) (.head _) (Y J)))⟩,
    ⟨⟨[⟨6,fun _=>tD bY e,none⟩],_,0,0,J,⟨(fun _=>J),aW⟩,J,J,J,J,J,fun _ sg _ _=>aa J (kR J)⟩,
    ⟨⟨[⟨65,fun _=>tD oQ ob.a_,some 8⟩,⟨66,fun _=>tD bY e,some 9⟩],_,0,0,J,⟨(fun _=>J),(fun _=>J),aW⟩,J,J,J,J,J,fun _ sg _ _=>aa J (GN dI bN J J J M_)⟩,
    ⟨⟨[⟨67,fun _=>aY bY e2,some 10⟩],_,0,0,J,⟨(fun _=>J),aW⟩,J,J,J,J,J,fun _ sg _ _=>aa J (m9 bN J J)⟩,
    ⟨⟨[⟨68,fun _=>tD bY e2,some 11⟩],_,0,0,J,⟨(fun _=>J),aW⟩,J,J,J,J,J,fun _ sg _ _=>aa J (aI (r:=bY) (ys:=[e2]) (xs:=[.tmp 68]) dI bN J J J J J ⟨(Y J),aW⟩)⟩,
    ⟨⟨[⟨61,fun _=>tV (ak l3 c2 ob.B'.length),some 4⟩,⟨69,fun _=>tD oQ ([e2]),some 12⟩],_,J,⟨(fun _=>J),(fun _=>J),aW⟩,J,J,J,fun sg=>cL J (fr3 (AK bN J J J J dI J (Y J) (Y J) q_l9))⟩,
    aW⟩⟩⟩⟩⟩⟩⟩⟩⟩⟩⟩⟩⟩⟩ (fun sg=>?_)
   refine(show RG _ _ _ _ [_,_,_,_] _ from ?_);refine M (aP (Y J))<|bI 17 iG J<|bM<|f9 bK J (wn (hs' :=[(1,ak l1 c ob.j'.length),(2,ak l2 c1 ob.D'.length)]) (kN _ _ _) ⟨.inr ⟨J,J⟩,.inr ⟨J,J⟩,aW⟩ J) J (Y J) (Ih (Y J)) ?_;refine(show RG _ _ _ _ [_,_,_,_] _ from ?_);refine bm<|dg I hN J<|bj<|aM<|aM<|aM ?_;exact aT (aE (ih (i+1) ({ob with B':=l9}:ap) l1 c l2 c1 ((sg 13).h 0).1 ((sg 13).h 0).2 ⟨cV I,h⟩) (aX J))
