/- dm of this claim: P14. -/
import Derived.Test.YthbdkceckjihgaaGreatDoorBcT
import Derived.Test.YthbdkceckjihgaaGreatDoorBcP13
set_option linter.all false
namespace Go.Proofs.YthbdkceckjihgaaGreatDoor
open Go
set_option maxRecDepth 100000

def VH tag{R}(h:wu tag=some R):cN bd 219 [bf tag] (bf R):=by
 refine dp Tryz.func219 I<|aV<|bF<|bP<|aR<|aY I<|dn I<|aY I<|ap I (de I)<|ap I (fun V=>ff (bE I V) hI)<|ap I (rn I)<|em I I I I (fun V=>fR I)<|em I I I I (fun V=>kr (bE I V) hI)<|ap I (fun V=>jr (bE I V) (fun A=>(bE I (sr V A))))<|dU I<|bX h I (fun h=>?_) (fun h=>?_)
 ·exact aV<|dG<|af<|so h▸au I I
 ·exact gp<|aI I<|eg h Xm (PY _) (da I) fun r h=>bj I<|so h▸au I I

def VG n{R}(h:jo n=some R):cN bd 220 [Z bt n] (iD R):=by
 refine dp Tryz.func220 I<|aV<|cL I<|bC<|bP<|aR<|aU m7 gN cF I<|bP<|ai<|aV<|dn I<|bh I<|lO h I (fun h=>?_) (fun h=>?_)
 ·exact aV<|aU wP nX lg I<|eg h Xl (PX _) (da I) fun r h=>aY I<|ax I (bQ p9 jw I I)<|ax I (bN cF I I)<|ax I (mX I)<|eZ I<|bj I<|bT<|so h▸au I I
 ·refine aV<|dn I<|bh I<|lO h I (fun h=>?_) (fun h=>?_)
  ·exact aV<|aU wP nX lg I<|d (bS lg C7 om I)<|d (yc Dg (M I) (M I))<|aY I<|ax I (bQ p9 jw I I)<|ax I (bN cF I I)<|ax I (fun V=>ff (bE I V) hI)<|eZ I<|aY I<|ax I (bQ p9 jw I I)<|ax I (bN cF I I)<|ax I (fun V=>eN (bE I V) hI)<|eZ I<|bj I<|bT<|so h▸au I I
  ·exact bl<|bn<|aq<|aV<|aU wP nX lg I<|d (bS lg C7 om I)<|d (yc Dg (M I) (M I))<|aY I<|ax I (bQ p9 jw I I)<|ax I (bN cF I I)<|ax I (mX I)<|eZ I<|bj I<|so h▸au I I

def TE: ∀(fu:Nat) (e:aZ) (place:Int) {R:Int} (h:jn fu e place=some R),cN bd 187 [Z ac e,bf place] (bf R):=by
 intro fu
 induction fu with
 |zero=>intro e place R h;exact(nn h).elim
 |succ fu ihR=>
  intro e place R h
  refine dp Tryz.func187 I<|aV<|cL I<|bF<|bP<|aR<|aY I<|d (eN (M I) hI)<|aY I<|ap I (de I)<|ap I (bQ jV ge I I)<|ap I (bN sB I I)<|ap I (gy mv I)<|ap I (fun V=>ff (bE I V) (bE I V))<|dU I<|bX h I (fun h=>?_) (fun h=>?_)
  ·exact aV<|dG<|af<|so h▸au I I
  ·refine gp<|aV<|aU jV ge sB I<|aY I<|cu h fun e1 q_e1 h=>d9 mv eH I q_e1<|aX eH iN I fun b=>bM eH aj I<|aQ 5 I<|bP<|aV<|aU m7 gN cF I<|eg h aa3 (VH _) (da I) fun r h=>bh I ?_;refine aR<|aY I<|d (eN (M I) hI)<|aY I<|cu h fun t q_t h=>ap I (fun V=>nM eH I I) ?_
   obtain⟨r1,h1t,h0t⟩:=og q_t
   have q_r1g:=fun A=>(h1t A).1
   refine ap I (fun V=>bq aa2 (VG _ (q_r1g V)) ⟨(bE I V),Q⟩)<|ap I (rJ I)<|d (cD (M I) (fun A=>(bE I (mD A))) (fun A=>(h1t A).2) h0t)<|bX h I (fun h=>?_) (fun h=>?_)
   ·exact aV<|dG<|af<|so h▸au I I
   ·refine gp<|aR<|aY I<|dn I<|bX h I (fun h=>?_) (fun h=>?_)
    ·refine aR<|aU o8 mS cF I<|ib I<|aY I<|ap I (bQ n4 lZ I I)<|ap I (bN cF I I)<|ap I (uI I)<|dU I<|bX h I (fun h=>?_) (fun h=>?_)
     ·exact aV<|dG<|af<|af<|so h▸au I I
     ·exact gp<|aV<|dG<|af<|so h▸au I I
    ·refine gp<|aV<|cM bJ I<|aY I<|d (fm (M I) hI)<|eg h T4 (ihR _ _) (da I) fun r2 h=>bh I<|aR<|aY I<|dn I<|bX h I (fun h=>?_) (fun h=>?_)
     ·exact aV<|dG<|af<|so h▸au I I
     ·refine gp<|aR<|aY I<|dn I<|bX h I (fun h=>?_) (fun h=>?_)
      ·refine aR<|aU o8 mS cF I<|aY I<|d (fm (M I) hI)<|d (du (M I) (M I))<|aY I<|ap I (bQ n4 lZ I I)<|ap I (bN cF I I)<|ap I (uI I)<|dU I<|bX h I (fun h=>?_) (fun h=>?_)
       ·exact aV<|dG<|af<|af<|so h▸au I I
       ·exact gp<|aI I<|d (fq (M I) hI)<|bj I<|af<|so h▸au I I
      ·refine gp<|aV<|cM bJ I<|aY I<|d (fm (M I) hI)<|aY I<|d (fm (M I) (M I))<|eg h T4 (ihR _ _) (da I) fun r3 h=>bh I<|aR<|aY I<|dn I<|aY I<|ap I (bQ n4 lZ I I)<|ap I (bN cF I I)<|ap I (de I)<|ap I (fun V=>fm (bE I V) hI) ?_;refine ap I (fun V=>du (bE I V) (bE I V))<|dU I<|aY I<|ap I (bQ o8 mS I I)<|ap I (bN cF I I)<|ap I (de I)<|ap I (fun V=>fm (bE I V) hI)<|ap I (de I)<|ap I (fun V=>fm (bE I V) (bE I V))<|ap I (fun V=>du (bE I V) (bE I V))<|dU I<|bX h I (fun h=>?_) (fun h=>?_)
       ·exact aV<|dG<|af<|so h▸au I I
       ·exact gp<|aI I<|aY I<|d (fq (M I) (M I))<|d (fq (M I) hI)<|bj I<|so h▸au I I
def VR e place{R}(h:BO e place=some R):cN bd 187 [Z ac e,bf place] (bf R):=TE fc e place h

def Wb e{R}(h:wt e=some R):cN bd 153 [Z ac e] (iD R):=by
 refine dp Tryz.func153 I<|aV<|cL I<|bC<|bP<|aA<|cu h fun t q_t h=>?_
 obtain⟨r,h1t,h0t⟩:=og q_t
 have q_rg:=fun A=>(h1t A).1
 refine d8 (ts:=[_,_,_,_,_,_,_,_,_,_,_,_,_,_,_,_,_,_,_,_,_,_,_]) mixed I I
  ⟨qN 1 I I (kO jV ge I I),
  ⟨fA 0 sB I I,
  ⟨fL 4 1 I I (zln mv I),
  ⟨fL 5 2 I I (ff (M I) hI),
  ⟨fL 6 3 I I (fR I),
  ⟨oo 1 7 4 I I I (kZ I I I I (fun V=>kO jV ge I I)),
  ⟨jS 8 5 7 4 I I I (kZ I I I I (fun V=>eS sB I I (bE I V))),
  ⟨jS 9 6 7 4 I I I (kZ I I I I (fun V=>fO mv (bE I V))),
  ⟨jS 10 7 7 4 I I I (kZ I I I I (fun V=>kr (bE I V) hI)),
  ⟨eh 7 4 11 8 I I I (zpa I I),
  ⟨fL 12 9 I I (fR I),
  ⟨oo 1 13 10 I I I (kZ I I I I (fun V=>nM bJ I I)),
  ⟨oo 1 13 10 I I I (kZ I I I I (fun V=>kO jV ge I I)),
  ⟨jS 15 12 13 10 I I I (kZ I I I I (fun V=>eS sB I I (bE I V))),
  ⟨jS 16 13 13 10 I I I (kZ I I I I (fun V=>fO mv (bE I V))),
  ⟨jS 17 14 13 10 I I I (kZ I I I I (fun V=>fm (bE I V) hI)),
  ⟨pi 14 11 18 15 13 10 I I I I (kZ I I I I (fun V=>bq T4 (VR _ _ (q_rg V)) ⟨(bE I V),(bE I V),Q⟩)),
  ⟨oo 1 13 10 I I I (kZ I I I I (fun V=>kO jV ge I I)),
  ⟨jS 20 17 13 10 I I I (kZ I I I I (fun V=>eS sB I I (bE I V))),
  ⟨jS 21 18 13 10 I I I (kZ I I I I (fun V=>fO mv (bE I V))),
  ⟨pi 19 16 22 19 13 10 I I I I (kZ I I I I (fun V=>m6 (bE I V) (bE I V))),
  ⟨eh 13 10 23 20 I I I (co (M I) (fun A=>(bE I A)) (fun A=>(h1t A).2) h0t),
  ⟨fL 24 21 I I (Cm I),
  Q⟩⟩⟩⟩⟩⟩⟩⟩⟩⟩⟩⟩⟩⟩⟩⟩⟩⟩⟩⟩⟩⟩⟩ ?_
 exact aq<|yJ<|so h▸au I I

def FG k want{R}(h:q8 k want=some R):cN bd 188 [bf k,bf want] (iD R):=by
 exact dp Tryz.func188 I<|aV<|bC<|bP<|aI I<|aY I<|d (m6 (M I) (M I))<|aY I<|ap I (de I)<|ap I (mX I)<|dU I<|bj I<|so h▸au I I

def Wa tag l r{R}(h:sP tag l r=some R):cN bd 154 [bf tag,bf l,bf r] (tT [bf R.1,iD R.2]):=by
 refine dp Tryz.func154 I<|aV<|bF<|bC<|bP<|aA<|ai<|aI I<|dn I<|aY I<|ap I (de I)<|ap I (fun V=>ff (bE I V) hI)<|ap I (rn I)<|em I I I I (fun V=>fR I)<|em I I I I (fun V=>kr (bE I V) hI)<|ap I (fun V=>jr (bE I V) (fun A=>(bE I (sr V A))))<|dU I<|bh I ?_;refine lO h I (fun h=>?_) (fun h=>?_)
 ·refine aI I<|eg h Qt (FG _ _) (da I) fun r1 h=>aY I<|cu h fun t q_t h=>ax I (de I) ?_
  obtain⟨r2,h1t,h0t⟩:=og q_t
  have q_r2g:=fun A=>(h1t A).1
  exact ax I (fun V=>bq Qt (FG _ _ (q_r2g V)) ⟨(bE I V),hI,Q⟩)<|d (co (M I) (fun A=>(bE I A)) (fun A=>(h1t A).2) h0t)<|bF<|bj I<|bT<|so h▸c0 I I I
 ·refine aI I<|dn I<|aY I<|ap I (de I)<|ap I (fun V=>ff (bE I V) hI)<|dU I<|bh I<|lO h I (fun h=>?_) (fun h=>?_)
  ·refine aI I<|eg h Qt (FG _ _) (da I) fun r3 h=>aY I<|cu h fun t1 q_t1 h=>ax I (de I) ?_
   obtain⟨r4,h1t1,h0t1⟩:=og q_t1
   have q_r4g:=fun A=>(h1t1 A).1
   exact ax I (fun V=>bq Qt (FG _ _ (q_r4g V)) ⟨(bE I V),hI,Q⟩)<|d (co (M I) (fun A=>(bE I A)) (fun A=>(h1t1 A).2) h0t1)<|bF<|bj I<|bT<|so h▸c0 I I I
  ·refine aI I<|dn I<|aY I<|ap I (de I)<|ap I (mX I)<|dU I<|bh I<|lO h I (fun h=>?_) (fun h=>?_)
   ·exact aV<|bF<|bC<|cA<|bT<|so h▸c0 I I I
   ·exact bl<|bn<|aq<|aI I<|aY I<|d (m6 (M I) (M I))<|aY I<|ap I (de I)<|ap I (mX I)<|dU I<|aY I<|ap I (de I)<|ap I (mX I)<|dU I<|bF<|bj I<|so h▸c0 I I I

def FK e kinds{R}(h:q9 e kinds=some R):cN bd 109 [Z ac e,qn kinds] (tT [bf R.1,bf R.2]):=by
 refine dp Tryz.func109 I<|aV<|cL I<|bF<|bF<|bP<|aR<|cM bJ I<|eg h abz (Wb _) (da I) fun r h=>d (fD (M I))<|bX h I (fun h=>?_) (fun h=>?_)
 ·exact aV<|bF<|dG<|af<|so h▸c0 I I I
 ·refine gp<|aR<|aY I<|bY fH I<|d (bB hI)<|bP<|ai<|aN (k:=20) I fun hN=>bp ?_;refine ay (dx (tD:=fun ls i=>(kinds.drop i=ls)/\qz e kinds ls=some R) (Of:=fun _ i=>[]) (Gf:=fun _ i=>[(1,qn kinds),(2,bo ac e),(20,qn kinds),(21,iG kinds),(22,bf (i:Int))]) (fun i h=>?_) (fun e1 tl ih i h=>?_) kinds 0 ⟨I,h⟩) (a8 I)
  ·obtain⟨D,h⟩:=h
   refine dh D I<|aq<|aR<|aU jV ge sB I<|bY mv I<|d (bB hI)<|bP<|ai<|aN (k:=34) I fun hN1=>?_;refine bp ?_;refine ay (dx (tD:=fun ls1 i1=>(e.Nodes.drop i1=ls1)/\oJ e kinds ls1=some R) (Of:=fun _ i1=>[]) (Gf:=fun _ i1=>[(1,qn kinds),(2,bo ac e),(34,gb (bt) e.Nodes),(35,iG e.Nodes),(36,bf (i1:Int))]) (fun i1 h=>?_) (fun e2 tl1 ih1 i1 h=>?_) e.Nodes 0 ⟨I,h⟩) (a8 I)
   ·obtain⟨hx1,h⟩:=h
    refine dh hx1 I<|aq<|aV<|ck false aP 3<|d (cg zf)<|bP<|aR<|aU jV ge sB I ?_;refine bY mv I<|d (bB hI)<|bP<|ai<|aN (k:=52) I fun hN2=>bp ?_;refine ay (jC (tD:=fun ls2 i2 own l c=>(e.Nodes.drop i2=ls2)/\dP kinds ls2 own=some R) (Of:=fun _ i2 own l c=>[f6 aP 3 l c own]) (Gf:=fun _ i2 own l c=>[(1,qn kinds),(10,sy l c own),(52,gb (bt) e.Nodes),(53,iG e.Nodes),(54,bf (i2:Int))]) (fun i2 own l c h=>?_) (fun e3 tl2 ih2 i2 own l c h=>?_) e.Nodes 0 xo none 0 ⟨I,h⟩) (a8 I)
    ·obtain⟨hx2,h⟩:=h
     refine dh hx2 I<|aq<|aI I<|aY I<|d (ip fH (.head _) (M I))<|d (fm (M I) hI)<|cu h fun e4 q_e4 h=>d (cz fH cF (.head _) (M I) (M I) q_e4)<|d (dN (r:=aP) (i:=(IntKind.i64.wrap ((own.length:Int)-(1:Int)))) (foff:=0) cF I I cE I (.head _) q_e4 (M I))<|gx I<|bF ?_;exact cA<|aM<|so h▸c0 I I I
    ·obtain⟨hx2,h⟩:=h
     refine dg hx2 I<|aA<|ai<|aV<|d9 mv eH I (cW hx2)<|aX eH iN I fun b=>bM eH aj I<|aQ 12 I<|bP<|ai<|aV ?_;refine aU m7 gN cF I<|dn I<|bh I<|lO h I (fun h=>?_) (fun h=>?_)
     ·refine aL<|aY I<|oU wP nX I<|aU tB pE cF I<|d (ba (r:=aP) (ys:=[e3.Value.Kind]) (xs:=[.tmp 92]) fH cF I I I I I ⟨(M I),Q⟩)<|cu h fun own1 q_own1 h=>dZ cF I I I I fH I I (M I) (M I) q_own1 fun l1 c1=>gx I<|br<|bn<|cS hx2 hN2 I ?_;exact aO (ay (ih2 (i2+1) own1 l1 c1 ⟨cO hx2,h⟩) (a8 I))
     ·refine aV<|aU m7 gN cF I<|dn I<|bh I<|lO h I (fun h=>?_) (fun h=>?_)
      ·refine aL<|aY I<|aY I<|aU p9 jw cF I<|cu h fun e5 q_e5 h=>d9 fH cF I q_e5<|d (ba (r:=aP) (ys:=[e5]) (xs:=[.tmp 104]) fH cF I I I I I ⟨(M I),Q⟩)<|cu h fun own2 q_own2 h=>dZ cF I I I I fH I I (M I) (M I) q_own2 fun l2 c2=>gx I<|br<|bn<|cS hx2 hN2 I ?_;exact aO (ay (ih2 (i2+1) own2 l2 c2 ⟨cO hx2,h⟩) (a8 I))
      ·refine aI I<|aU o8 mS cF I<|cu h fun e6 q_e6 h=>d (cz fH cF (.head _) (M I) (M I) q_e6)<|d (dN (r:=aP) (i:=e3.L) (foff:=0) cF I I cE I (.head _) q_e6 (M I))<|gx I<|bF<|bP ?_;refine ia (tD:=fun r1=>qA (dP kinds tl2) e3 own e6 r1=some R) (Of:=fun r1=>[f6 aP 3 l c own]) (Gf:=fun r1=>[(1,qn kinds),(10,sy l c own),(12,bo bt e3),(13,bf e6),(14,bf r1),(52,gb (bt) e.Nodes),(53,iG e.Nodes),(54,bf (i2:Int))]) (fun r1 h=>?_) (fun aw=>?_)
       ·skip
        refine aV<|aU m7 gN cF I<|aY I<|aY I<|eg h aby (Wa _ _ _) (da I) fun r2 h=>aY I<|cU I I<|cU I I<|gx I<|bh I<|aR<|aY I<|d (fD (M I))<|bX h I (fun h=>?_) (fun h=>?_)
        ·exact aV<|bF<|dG<|af<|xO<|bT<|af<|bT<|aM<|so h▸c0 I I I
        ·refine gp<|aL<|aY I<|aY I<|d (ba (r:=aP) (ys:=[r2.1]) (xs:=[.tmp 82]) fH cF I I I I I ⟨(M I),Q⟩)<|cu h fun own3 q_own3 h=>dZ cF I I I I fH I I (M I) (M I) q_own3 fun l3 c3=>gx I<|br<|bn<|cS hx2 hN2 I ?_;exact aO (ay (ih2 (i2+1) own3 l3 c3 ⟨cO hx2,h⟩) (a8 I))
       ·skip
        refine aV<|aU n4 lZ cF I<|d (ff (M I) hI)<|bX h I (fun h=>?_) (fun h=>?_)
        ·refine aL<|aY I<|aU n4 lZ cF I<|cu h fun e7 q_e7 h=>d (cz fH cF (.head _) (M I) (M I) q_e7)<|d (dN (r:=aP) (i:=e3.R) (foff:=0) cF I I cE I (.head _) q_e7 (M I))<|gx I<|br ?_;exact cj (aw e7 h) (a8 I)
        ·refine bl ?_;exact cj (aw (0:Int) h) (a8 I)
   ·obtain⟨hx1,h⟩:=h
    refine dg hx1 I<|aA<|ai<|aV<|d9 mv eH I (cW hx1)<|aX eH iN I fun b1=>bM eH aj I<|aQ 9 I<|bP<|aV<|oU m7 gN I ?_;refine cM cF I<|dn I<|aY I<|ax I (bQ p9 jw I I)<|ax I (bN cF I I)<|ax I (de I)<|ax I (gy fH I)<|ax I (fun V=>ff (bE I V) (bE I V))<|eZ I<|bX h I (fun h=>?_) (fun h=>?_)
    ·exact aV<|bF<|dG<|bT<|af<|bT<|so h▸c0 I I I
    ·refine bl<|cS hx1 hN1 I ?_;exact aO (ay (ih1 (i1+1) ⟨cO hx1,h⟩) (a8 I))
  ·obtain⟨D,h⟩:=h
   refine dg D I<|aA<|ai<|aV<|d9 fH cF I (cW D)<|bh I<|aI I<|d (eN (M I) hI)<|aY I ?_;refine ap I (de I)<|ap I (fun V=>eX (bE I V) hI)<|dU I<|bX h I (fun h=>?_) (fun h=>?_)
   ·exact aV<|bF<|dG<|bT<|af<|bT<|so h▸c0 I I I
   ·refine bl<|cS D hN I ?_;exact aO (ay (ih (i+1) ⟨cO D,h⟩) (a8 I))

def Qa a1 kinds{R}(h:qv a1 kinds=some R):cN bd 152 [Z aT a1,qn kinds] (tT [bf R.1,iD R.2]):=by
 refine dp Tryz.func152 I<|aV<|cL I<|bF<|bC<|bP<|aR<|aU sf mJ cF I<|dn I<|bX h I (fun h=>?_) (fun h=>?_)
 ·exact aV<|bF<|bC<|cA<|af<|so h▸c0 I I I
 ·refine gp<|aV<|aU yn ue bJ I<|aY I<|eg h Qy (FK _ _) (da I) fun r h=>aY I<|cU I I<|cU I I<|gx I<|bh I<|aR<|aY I<|ib I<|aY I<|ap I (bQ sf mJ I I)<|ap I (bN cF I I) ?_;refine ap I (mX I)<|ap I (rn I)<|em I I I I (fun V=>fR I)<|em I I I I (fun V=>du (bE I V) hI)<|ap I (fun V=>jr (bE I V) (fun A=>(bE I (sr V A))))<|ap I (rn I)<|em I I I I (fun V=>fR I)<|em I I I I (fun V=>du (bE I V) hI)<|ap I (fun V=>jr (bE I V) (fun A=>(bE I (sr V A))))<|dU I<|bX h I (fun h=>?_) (fun h=>?_)
  ·exact aV<|bF<|bC<|cA<|af<|so h▸c0 I I I
  ·refine gp<|aR<|aU sf mJ cF I<|dn I<|aY I<|ap I (bQ sf mJ I I)<|ap I (bN cF I I)<|ap I (mX I)<|dU I<|bX h I (fun h=>?_) (fun h=>?_)
   ·exact aV<|bF<|bC<|cA<|af<|so h▸c0 I I I
   ·exact gp<|aI I<|gx I<|bC<|cA<|so h▸c0 I I I

def Mj c s{R}(h:iT c s=some R):jB bd 108 [Z bG c,Z bw s] false aP 3 R:=by
 refine jB.of Tryz.func108 I I I fun w0 S0=>aV<|cL I<|cL I<|ck false aP 3<|d (cg zf)<|bP<|aV<|cM pl I<|aU rh vc fV I<|F6 h R2 (Kn _ _) (da I) fun r h l c1=>bh I<|aV<|ck false aP 3<|d (cg zf)<|br ?_;refine aq<|aR<|aU uD ym fV I<|bY fH I<|d (bB hI)<|bP<|ai<|aN (k:=18) I fun hN=>bp<|kb<|yH<|hZ ?_;refine ay (jC (tD:=fun ls i out l1 c2=>(s.Keys.drop i=ls)/\jH s r ls out=some R) (Of:=fun _ i out l1 c2=>[f6 aP 3 l c1 r,f6 aP 3 l1 c2 out]) (Gf:=fun _ i out l1 c2=>[(3,bo bw s),(5,sy l c1 r),(6,sy l1 c2 out),(18,qn s.Keys),(19,iG s.Keys),(20,bf (i:Int))]) (fun i out l1 c2 h=>?_) (fun e tl ih i out l1 c2 h=>?_) s.Keys 0 xo none 0 ⟨I,h⟩) (a8 I)
 ·obtain⟨D,h⟩:=h
  refine dh D I<|aq<|aR<|aU nZ mI xU I<|bY wi I<|d (bB hI)<|bP<|ai<|aN (k:=33) I fun hN1=>?_;refine bp<|Ew<|HP 5 I ?_;refine ay (jC (tD:=fun ls1 i1 out1 l2 c3=>(s.Aggs.drop i1=ls1)/\jG r ls1 out1=some R) (Of:=fun _ i1 out1 l2 c3=>[K aP 3 l c1 r,f6 aP 3 l2 c3 out1]) (Gf:=fun _ i1 out1 l2 c3=>[(5,tO aP l c1 r),(6,sy l2 c3 out1),(33,gb (aT) s.Aggs),(34,iG s.Aggs),(35,bf (i1:Int))]) (fun i1 out1 l2 c3 h=>?_) (fun e1 tl1 ih1 i1 out1 l2 c3 h=>?_) s.Aggs 0 out l1 c2 ⟨I,h⟩) (a8 I)
  ·obtain⟨hx1,h⟩:=h
   exact dh hx1 I<|aq<|aI I<|bj I<|dI<|so h▸na I I
  ·obtain⟨hx1,h⟩:=h
   refine dg hx1 I<|aA<|ai<|aV<|d9 wi ut I (cW hx1)<|aX ut F2 I fun b=>bM ut aj I<|aQ 10 I<|bP<|aV<|cM ut I ?_;refine aY I<|eg h Xp (Qa _ _) ⟨(M I),(kp (M I)),Q⟩ fun r1 h=>aY I<|cU I I<|cU I I<|gx I<|bh I<|aL<|aY I<|aY I<|d (ba (r:=aP) (ys:=[r1.1]) (xs:=[.tmp 46]) fH cF I I I I I ⟨(M I),Q⟩)<|dS<|cu h fun out2 q_out2 h=>dZ cF I I I I fH I I (M I) (M I) q_out2 fun l3 c4=>gx I<|br<|bn<|aq<|aL<|d (zin (Qp hx1 hN1) I)<|aY I ?_;refine br<|dI ?_;exact aO (ay (ih1 (i1+1) out2 l3 c4 ⟨cO hx1,h⟩) (a8 I))
 ·obtain⟨D,h⟩:=h
  refine dg D I<|aA<|ai<|aV<|d9 fH cF I (cW D)<|bh I<|aL<|aY I<|aY I<|aY I<|cu h fun e2 q_e2 h=>?_;refine d (cz fH cF (.head _) (M I) (M I) q_e2)<|d (dN (r:=aP) (i:=e) (foff:=0) cF I I cE I (.head _) q_e2 (M I))<|d (ba (r:=aP) (ys:=[e2]) (xs:=[.tmp 28]) fH cF I I I I I ⟨(M I),Q⟩)<|dS<|cu h fun out3 q_out3 h=>dZ cF I I I I fH I I (M I) (M I) q_out3 fun l4 c5=>gx I<|br<|cS D hN I<|dI ?_;exact aO (ay (ih (i+1) out3 l4 c5 ⟨cO D,h⟩) (a8 I))
def Ql c s{R}(h:iT c s=some R):cN bd 108 [Z bG c,Z bw s] (qn R):=(Mj _ _ h).spec

end Go.Proofs.YthbdkceckjihgaaGreatDoor

