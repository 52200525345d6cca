import Derived.Test.YtdohlidddcgfjaaGreatFgT
import Derived.Test.YtdohlidddcgfjaaGreatFgP6
set_option linter.all false
namespace Go.Proofs.YtdohlidddcgfjaaGreat
open Go Tryz EffOK
set_option maxRecDepth 100000
def abH nodes{R}(h:iP nodes=some R):dk bt 82 [ek (aQ) nodes] (tT [ek (oH) R.1,bI R.2.1,bI R.2.2]):=by
 refine dX func82 J<|O<|fb (oH)<|bP<|bP<|bC<|O0<|aN<|Z J<|bX mn J<|X (eC (D J) hI)<|Z J<|aB J (ca J)<|aB J (hM mn J)<|aB J (fun Y=>d8 (bg J Y) hI)<|dG J<|bV h J (fun h=>?_) (fun h=>?_)
 ·exact O<|fb (oH)<|bP<|ea<|ae<|y5<|so h▸pK J J J J
 ·refine fy<|aw J<|X (cI (r:=rH ce [(1,.slice none 0 0),(2,.slice none 0 0)]) (y:=(⟨nodes,[],[],⟨0,0,0,0,[],false,⟨[]⟩,[],[],[],[],0⟩,[],[],[]⟩:aE)) ade adA (zH XH ⟨J,J,aV⟩) (⟨_,_,_,_,_,J,Hd Tq J J,J,(D J),J⟩))<|ss (D J) J fun b=>cn true oH 69<|cn false cj 3 ?_;refine(show RG _ _ _ _ [_,_,_] _ from ?_);refine aK J<|O<|ej h afn ZO trivial fun r h=>aK J<|O<|bP<|bC<|aS<|O3<|an<|aN<|Z J<|bX mn J<|X (cB hI) ?_;refine bC ?_;refine UI (aH:=fun wrong ob l c l1 c1=>lc nodes wrong ob=some R) (Of:=fun wrong ob l c l1 c1=>[s (rH ce [(1,aI l c ob.g'.length),(2,aI l1 c1 ob.m'.length)]) 168 b ob,lP oH 69 l c ob.g',d5 cj 3 l1 c1 ob.m']) (Gf:=fun wrong ob l c l1 c1=>[(0,ek (aQ) nodes),(5,Q (M b 0)),(7,bI wrong)]) (fun wrong ob l c l1 c1 h=>?_) (fun hx=>?_)
  ·skip;refine an ?_;refine dP (aH:=fun wrong1=>od ob wrong1=some R) (Of:=fun wrong1=>[s (rH ce [(1,aI l c ob.g'.length),(2,aI l1 c1 ob.m'.length)]) 168 b ob,lP oH 69 l c ob.g',d5 cj 3 l1 c1 ob.m']) (Gf:=fun wrong1=>[(5,Q (M b 0)),(7,bI wrong1)]) (fun wrong1 h=>?_) (fun K1=>?_)
   ·skip;refine aN<|Z J<|X (d9 (D J) hI)<|bV h J (fun h=>?_) (fun h=>?_)
    ·exact aw J<|fb (oH)<|dM J<|ea<|ae<|y5<|aF<|aF<|aF<|so h▸pK J J J J
    ·refine fy<|O<|cn false oH 69<|X (cg vk)<|bC<|aN<|Z J<|X (aL (D J))<|aR 1 GG J<|X (A4 XR J (.tail _ (.head _)) (.tail _ (.tail _ (.head _))) (D J))<|X (fK wF (mY (D J)))<|X (cB hI)<|bC<|ak<|UG<|UH 61 J<|bJ (k:=61) J fun hN=>bK ?_;refine gB<|fT<|gB<|gB ?_;refine aM (nX (aH:=fun ls i out l2 c2=>(ob.g'.drop i=ls)/\ql ls out=some R) (Of:=fun _ i out l2 c2=>[d5 oH 69 l2 c2 out,s (rH ce [(1,aI l c ob.g'.length),(2,aI l1 c1 ob.m'.length)]) 168 b ob,lP oH 69 l c ob.g',d5 cj 3 l1 c1 ob.m']) (Gf:=fun _ i out l2 c2=>[(10,oI l2 c2 out),(61,ek (oH) ob.g'),(62,mR ob.g'),(63,bI (i:Int))]) (fun i out l2 c2 h=>?_) (fun e tl ih i out l2 c2 h=>?_) ob.g' 0 aaV none 0 ⟨J,h⟩) (aX J)
     ·obtain⟨K,h⟩:=h;refine gk K J<|an<|aw J<|dM J<|bP<|ea<|y5<|dE ?_;exact bS 10 J<|bS 73 J<|bS 2 J<|fa 2 J<|aF<|aF<|aF<|aF<|so h▸pK J J J J
     ·obtain⟨K,h⟩:=h;refine gj K J<|aS<|ak<|O<|eE wF cV J (fh K)<|aK J<|ai<|Z J<|Z J<|lp h Xg (Ow _) (co J) fun r1 h l3 c3=>?_;refine ed<|cR 69 J<|X (aT (r:=yj) (ys:=[r1]) (xs:=[.tmp 69]) wF cV J J J J J ⟨(mY (D J)),aV⟩)<|bf<|bR h fun n' X' h=>bA cV J J J J wF J J (D J) (D J) X' fun l4 c4=>dM J<|aJ<|eN K hN J<|ap<|aF ?_;exact aY (aM (ih (i+1) n' l4 c4 ⟨ei K,h⟩) (aX J))
   ·skip;refine aw J<|X (eC (D J) hI)<|Z J<|ac J (ca J)<|ac J (fun Y=>aL (bg J Y))<|ac J (fun Y=>bY (n:=2) wr J (bg J Y) J)<|ac J (fun Y=>dR cV J (.head _) (bg J Y))<|ac J (fun Y=>jg eh (.tail _ (.tail _ (.head _))) (bg J Y))<|ac J (ud J)<|cm J<|bV h J (fun h=>?_) (fun h=>?_)
    ·refine ai<|Z J<|bX mn J<|X (ec (D J) hI)<|dM J<|aJ ?_;exact bE (K1 (IntKind.i64.wrap ((nodes.length:Int)-1)) h) (aX J)
    ·refine aW ?_;exact bE (K1 wrong h) (aX J)
  ·skip;refine bJ (k:=25) J fun hN1=>bK<|fT<|jk ?_;refine aM (IF (aH:=fun ls1 i1 wrong2 F' l5 c5 l6 c6=>(nodes.drop i1=ls1)/\gN nodes r ls1 i1 wrong2 F'=some R) (Of:=fun _ i1 wrong2 F' l5 c5 l6 c6=>[s (rH ce [(1,aI l5 c5 F'.g'.length),(2,aI l6 c6 F'.m'.length)]) 168 b F',lP oH 69 l5 c5 F'.g',d5 cj 3 l6 c6 F'.m']) (Gf:=fun _ i1 wrong2 F' l5 c5 l6 c6=>[(0,ek (aQ) nodes),(5,Q (M b 0)),(6,tMp (fun y:(aE->Unit->Option (Bool×aE))=>tf (fun bb=>mf bt (fun(x:Unit)=>[Q (M bb 0)]) (gx bb) td y)) (kvI .i64) r),(7,bI wrong2),(25,ek (aQ) nodes),(26,mR nodes),(27,bI (i1:Int))]) (fun i1 wrong2 F' l5 c5 l6 c6 h=>?_) (fun e1 tl1 ih1 i1 wrong2 F' l5 c5 l6 c6 h=>?_) nodes 0 DA (⟨nodes,[],[],⟨0,0,0,0,[],false,⟨[]⟩,[],[],[],[],0⟩,[],[],[]⟩:aE) none 0 none 0 ⟨J,h⟩) (aX J)
   ·obtain⟨l_,h⟩:=h;refine gk l_ J ?_;exact bE (hx wrong2 F' l5 c5 l6 c6 h) (aX J)
   ·obtain⟨l_,h⟩:=h;refine gj l_ J<|aS<|ak<|aw J<|eE mn dL J (fh l_)<|bD dL jd J fun b1=>dM J<|be dL aq J<|bj 9 J<|bC<|aS ?_;refine ai<|Z J<|Z J<|Z J<|aU gq db bH J<|X (NW (γ:=(fun y:(aE->Unit->Option (Bool×aE))=>tf (fun bb=>mf bt (fun(x:Unit)=>[Q (M bb 0)]) (gx bb) DB y))) (z:=(fun _ _=>none)) F4 (s6 jm) ac3 (fun _ _=>Td) (D J) (Gh (D J)))<|bR h fun r2 Y' h=>bc (fr2 (fr2 (fr2 (ay (xs:=[.tmp 32,.tmp 33,.tmp 37]) (ts:=[Q (M b 0),bI (i1:Int),tf (fun bb=>mf bt (fun(x:Unit)=>[Q (M bb 0)]) (gx bb) td ((C5 r e1.Op).getD (fun _ _=>none)))]) (gx b F' (y7 [(l5,c5),(l6,c6)])) _ J afm (acJ b (y7 [(l5,c5),(l6,c6)]) F' _ _ Y') ⟨(D J),(D J),(D J),aV⟩ (fun _=>J))))) J fun i2=>?_;refine(show RG _ _ _ _ [_,_,_] ((38,fU r2.1)::_)from ?_);refine X (fq (D J))<|bV h J (fun h=>?_) (fun h=>?_)
    ·refine aw J<|aK J<|cL<|cN J<|am<|am<|bL ?_;exact bE (hx (i1:Int) r2.2 (i2.h 0).1 (i2.h 0).2 (i2.h 1).1 (i2.h 1).2 h) (aX J)
    ·refine aW<|eN l_ hN1 J ?_;exact aY (aM (ih1 (i1+1) wrong2 r2.2 (i2.h 0).1 (i2.h 0).2 (i2.h 1).1 (i2.h 1).2 ⟨ei l_,h⟩) (aX J))
def ab4 p{R}(h:w8 p=some R):dk bt 40 [tD jL p] (fU R):=by
 refine dX func40 J<|O<|eH J<|bo<|bC<|O<|X (cg (show bk _ _ _ ((nL bt ML td (fun(x:Int)=>uv x)))from(Wd af6 fun x y h=>abI _ h)))<|bC<|aN<|aU qF kg ze J<|bX vL J<|X (cB hI)<|bC<|ak<|bJ (k:=12) J fun hN=>bK ?_;refine aM (f0 (aH:=fun ls i=>(p.L'.drop i=ls)/\qq p ls=some R) (Of:=fun _ i=>[]) (Gf:=fun _ i=>[(1,da jL p),(3,(nL bt ML td (fun(x:Int)=>uv x))),(12,ek (cK) p.L'),(13,mR p.L'),(14,bI (i:Int))]) (fun i h=>?_) (fun e tl ih i h=>?_) p.L' 0 ⟨J,h⟩) (aX J)
 ·obtain⟨K,h⟩:=h;refine gk K J<|an<|O<|aU qF kg ze J<|bX vL J<|X (d9 (D J) hI)<|Z J<|ac J (bu qF kg J J)<|ac J (bp ze J J)<|ac J (hM vL J)<|ac J (fun Y=>ft (bg J Y) hI) ?_;exact cm J<|ba J<|so h▸aC J J
 ·obtain⟨K,h⟩:=h;refine gj K J<|aS<|ak<|O<|eE vL nr J (fh K)<|bD nr pm J fun b=>be nr aq J<|bj 5 J<|bC<|O<|qX vR sj J ?_;refine eb sE J<|ej h af5 (abH _) (co J) fun r h=>Z J<|dJ J J<|dJ J J<|dJ J J<|dM J<|dM J<|aK J<|O<|aU yv si bH J<|bl J<|Z J<|aB J (bu yv si J J)<|aB J (bp bH J J)<|aB J (iq J)<|dG J<|dM J<|aJ ?_;refine an<|O<|aU yu sh bH J<|X (d9 (D J) hI)<|Z J<|ac J (bu yu sh J J)<|ac J (bp bH J J)<|ac J (fun Y=>ft (bg J Y) hI)<|cm J<|Z J<|ac J (bu vQ oW J J)<|ac J (bp cV J J)<|ac J (hM eh J)<|ac J (fun Y=>ft (bg J Y) hI)<|cm J<|Z J<|bR h fun t u_ h=>ac J (bu vQ oW J J)<|ac J (bp cV J J)<|ac J (ca J) ?_;obtain⟨r1,h_,v_⟩:=og u_;have k_:=fun V=>(h_ V).1;refine ac J (fun Y=>cC acR (Qy _ _ (k_ Y)) ⟨(bg J Y),(bg J Y),aV⟩)<|ac J (nt J)<|X (cw (D J) (fun V=>(bg J V)) (fun V=>(h_ V).2) v_)<|aK J<|aw J<|mV J<|Z J<|aB J (ca J)<|aB J (nt J)<|dG J<|Z J<|aB J (ca J)<|aB J (nt J)<|dG J<|bV h J (fun h=>?_) (fun h=>?_)
  ·exact O<|bo<|bF<|cF<|ae<|cF<|so h▸aC J J
  ·refine aW<|eN K hN J ?_;exact aY (aM (ih (i+1) ⟨ei K,h⟩) (aX J))
def ZC n{R}(h:zE n=some R):dk bt 154 [tD sC n] (fU R):=by
 exact dX func154 J<|O<|bo<|bC<|aw J<|X (d9 (D J) hI)<|Z J<|ac J (ca J)<|ac J (fun Y=>ft (bg J Y) hI)<|cm J<|ba J<|so h▸aC J J
def YW bx f{R}(h:jS bx f=some R):dk bt 248 [ek (u9) bx,(nL bt aaX td (fun(x:(List aD))=>f x))] (bI R):=by
 refine dX func248 J<|O<|bP<|bC<|aN<|Z J<|bX tZ J<|X (cB hI)<|bC<|ak<|bJ (k:=6) J fun hN=>bK ?_;refine aM (f0 (aH:=fun ls i=>(bx.drop i=ls)/\fL f ls i=some R) (Of:=fun _ i=>[]) (Gf:=fun _ i=>[(0,ek (u9) bx),(1,(nL bt aaX td (fun(x:(List aD))=>f x))),(7,mR bx),(8,bI (i:Int))]) (fun i h=>?_) (fun e tl ih i h=>?_) bx 0 ⟨J,h⟩) (aX J)
 ·obtain⟨K,h⟩:=h;exact gk K J<|an<|O<|ea<|so h▸aC J J
 ·obtain⟨K,h⟩:=h;refine gj K J<|aS<|ak<|aw J<|aK J<|aw J<|Z J<|Z J<|FF tZ xw J (fh K) ?_;refine eb xw J<|bR h fun r q_ h=>X (nP (args:=(fun(x:(List aD))=>[tD u9 x])) (res:=DB) (f:=(fun(x:(List aD))=>f x)) (x:=((e):(List aD))) (D J) q_ ⟨(D J),aV⟩)<|bV h J (fun h=>?_) (fun h=>?_)
  ·exact aw J<|ba J<|cF<|ae<|cF<|so h▸aC J J
  ·refine aW<|eN K hN J ?_;exact aY (aM (ih (i+1) ⟨ei K,h⟩) (aX J))
def Zg bx f{R}(h:gJ bx f=some R):dk bt 228 [ek (u9) bx,(nL bt aaX td (fun(x:(List aD))=>f x))] (fU R):=by
 exact dX func228 J<|O<|bo<|bC<|aw J<|Z J<|ej h aeb (YW _ _) (co J) fun r h=>X (d9 (D J) hI)<|ba J<|so h▸aC J J
def YS v{R}(h:vv v=some R):dk bt 258 [tD bh v] (fU R):=by
 exact dX func258 J<|O<|eH J<|bo<|bC<|O<|eb cb J<|ej h FV (xZ _) (co J) fun r h=>mV J<|ba J<|so h▸aC J J
def YO bx f{R}(h:mZ bx f=some R):dk bt 264 [ek (bh) bx,(nL bt U4 td (fun(x:aD)=>f x))] (bI R):=by
 refine dX func264 J<|O<|bP<|bC<|aN<|Z J<|bX wH J<|X (cB hI)<|bC<|ak<|bJ (k:=6) J fun hN=>bK ?_;refine aM (f0 (aH:=fun ls i=>(bx.drop i=ls)/\er f ls i=some R) (Of:=fun _ i=>[]) (Gf:=fun _ i=>[(0,ek (bh) bx),(1,(nL bt U4 td (fun(x:aD)=>f x))),(7,mR bx),(8,bI (i:Int))]) (fun i h=>?_) (fun e tl ih i h=>?_) bx 0 ⟨J,h⟩) (aX J)
 ·obtain⟨K,h⟩:=h;exact gk K J<|an<|O<|ea<|so h▸aC J J
 ·obtain⟨K,h⟩:=h;refine gj K J<|aS<|ak<|aw J<|aK J<|aw J<|Z J<|Z J<|FF wH cb J (fh K) ?_;refine eb cb J<|bR h fun r q_ h=>X (nP (args:=U4) (res:=DB) (f:=(fun(x:aD)=>f x)) (x:=((e):aD)) (D J) q_ ⟨(D J),aV⟩)<|bV h J (fun h=>?_) (fun h=>?_)
  ·exact aw J<|ba J<|cF<|ae<|cF<|so h▸aC J J
  ·refine aW<|eN K hN J ?_;exact aY (aM (ih (i+1) ⟨ei K,h⟩) (aX J))
def YR bx f{R}(h:iY bx f=some R):dk bt 259 [ek (bh) bx,(nL bt U4 td (fun(x:aD)=>f x))] (fU R):=by
 exact dX func259 J<|O<|bo<|bC<|aw J<|Z J<|ej h ad0 (YO _ _) (co J) fun r h=>X (d9 (D J) hI)<|ba J<|so h▸aC J J
def YV r{R}(h:BC r=some R):dk bt 249 [ek (bh) r] (fU R):=by
 refine dX func249 J<|O<|bo<|bC<|O<|X (cg (show bk _ _ _ ((nL bt U4 td (fun(x:aD)=>vv x)))from(Wd ad4 fun x y h=>YS _ h)))<|bC<|aw J<|bX wH J<|X (ft (D J) hI)<|Z J<|bR h fun t u_ h=>ac J (ca J)<|ac J (ca J) ?_;obtain⟨r1,h_,v_⟩:=og u_;have k_:=fun V=>(h_ V).1;exact ac J (fun Y=>cC ad3 (YR _ _ (k_ Y)) ⟨(bg J Y),(bg J Y),aV⟩)<|ac J (nt J)<|X (cw (D J) (fun V=>(bg J V)) (fun V=>(h_ V).2) v_)<|ba J<|so h▸aC J J
def Ze r{R}(h:BD r=some R):dk bt 230 [ek (bh) r] (bI R):=by
 refine dX func230 J<|O<|bP<|bC<|aN<|Z J<|ej h aea (YV _) (co J) fun r1 h=>X (fq (D J))<|bV h J (fun h=>?_) (fun h=>?_)
 ·exact O<|ea<|ae<|so h▸aC J J
 ·exact fy<|O<|ea<|so h▸aC J J
def Zf r{R}(h:A9 r=some R):dk bt 229 [ek (bh) r] (fU R):=by
 exact dX func229 J<|O<|bo<|bC<|aw J<|ej h aep (Ze _) (co J) fun r1 h=>mV J<|ba J<|so h▸aC J J
def Zq l{R}(h:BV l=some R):dk bt 197 [ek (u9) l] (fU R):=by
 refine dX func197 J<|O<|bo<|bC<|aw J<|bX tZ J<|X (d8 (D J) hI)<|Z J<|ac J (ca J)<|ac J (hM tZ J)<|ac J (fun Y=>ft (bg J Y) hI)<|cm J<|Z J<|bR h fun t u_ h=>ac J (ca J) ?_;obtain⟨r,h_,v_⟩:=og u_;have x_:=fun V=>(h_ V).1;exact ac J (fun Y=>cC aer (Zg _ _ (x_ Y)) ⟨(bg J Y),(Wd aeq fun x y h=>Zf _ h),aV⟩)<|ac J (nt J)<|X (cw (D J) (fun V=>(bg J V)) (fun V=>(h_ V).2) v_)<|ba J<|so h▸aC J J
def ZB b seq{R}(h:zF b seq=some R):dk bt 155 [tD nN b,tD mp seq] (fU R):=by
 refine dX func155 J<|O<|eH J<|bo<|bC<|aN<|Z J<|X (eC (D J) hI)<|Z J<|aB J (ca J)<|aB J (fun Y=>d8 (bg J Y) hI)<|dG J<|bV h J (fun h=>?_) (fun h=>?_)
 ·exact O<|bo<|bF<|ae<|so h▸aC J J
 ·refine fy<|aN<|aU tw kT ua J<|bV h J (fun h=>?_) (fun h=>?_)
  ·exact O<|aU uz lZ DD J<|bX tZ J<|bl J<|Z J<|ac J (bu uy lY J J)<|ac J (bp kG J J)<|ac J (ca J)<|ac J (fun Y=>ec (bg J Y) hI)<|ac J (fun Y=>dW (bg J Y) (bg J Y))<|cm J<|ba J<|ae<|so h▸aC J J
  ·refine fy<|O<|aU uy lY kG J<|bl J<|Z J<|bR h fun t u_ h=>ac J (bu uz lZ J J)<|ac J (bp DD J J) ?_;obtain⟨r,h_,v_⟩:=og u_;have x_:=fun V=>(h_ V).1;exact ac J (fun Y=>cC aeI (Zq _ (x_ Y)) ⟨(bg J Y),aV⟩)<|X (cw (D J) (fun V=>(bg J V)) (fun V=>(h_ V).2) v_)<|ba J<|so h▸aC J J
def Zd a1 b{R}(h:yF a1 b=some R):dk bt 231 [ek (bh) a1,ek (bh) b] (fU R):=by
 exact dX func231 J<|O<|bo<|bC<|aw J<|Z J<|ej h adS (Wo _ _) (co J) fun r h=>ba J<|so h▸aC J J
def Zp a1 b{R}(h:DP a1 b=some R):dk bt 198 [ek (u9) a1,ek (u9) b] (fU R):=by
 exact dX func198 J<|O<|bo<|bC<|aw J<|Z J<|ej h adT (Wp _ _ _) ⟨(D J),(D J),(Wd aeo fun x y h=>Zd _ _ h),aV⟩ fun r h=>ba J<|so h▸aC J J
def ZA a1 b{R}(h:BU a1 b=some R):dk bt 156 [tD nN a1,tD nN b] (fU R):=by
 refine dX func156 J<|O<|eH J<|eH J<|bo<|bC<|O<|aU tw kT ua J<|aU tw kT ua J<|X (D7 KK (D J) (D J))<|Z J<|ac J (bu uy lY J J)<|ac J (bp kG J J)<|ac J (bu uy lY J J)<|ac J (bp kG J J)<|ac J (fun Y=>dW (bg J Y) (bg J Y))<|cm J<|Z J<|bR h fun t u_ h=>?_;refine ac J (bu uz lZ J J)<|ac J (bp DD J J)<|ac J (bu uz lZ J J)<|ac J (bp DD J J) ?_;obtain⟨r,h_,v_⟩:=og u_;have x_:=fun V=>(h_ V).1;exact ac J (fun Y=>cC aeH (Zp _ _ (x_ Y)) ⟨(bg J Y),(bg J Y),aV⟩)<|X (cw (D J) (fun V=>(bg J V)) (fun V=>(h_ V).2) v_)<|ba J<|so h▸aC J J
def ZU p{R}(h:rY p=some R):dk bt 115 [tD cQ p] (bI R):=by
 refine dX func115 J<|O<|eH J<|bP<|bC<|O<|aU zO pd sF J<|ej h afb (ZC _) (co J) fun r h=>aK J<|aN<|aU Bi pe bH J<|bC<|ak ?_;refine O<|bl J<|aK J<|fz h J (fun h=>?_) (fun h=>?_)
 ·refine ai<|Z J<|Z J<|ac J (bu u0 lC J J)<|ac J (bp kG J J)<|ac J (iq J)<|cm J<|Z J<|bR h fun t u_ h=>ac J (bu jQ dK J J)<|ac J (bp XS J J)<|ac J (bu tv ji J J)<|ac J (bp kG J J) ?_;obtain⟨r1,h_,v_⟩:=og u_;have k_:=fun V=>(h_ V).1;refine ac J (fun Y=>cC afa (ZB _ _ (k_ Y)) ⟨(bg J Y),(bg J Y),aV⟩)<|X (cw (D J) (fun V=>(bg J V)) (fun V=>(h_ V).2) v_)<|dM J<|aJ<|ah<|an<|aN<|Z J<|X (fq (D J))<|bV h J (fun h=>?_) (fun h=>?_)
  ·exact O<|ea<|ae<|so h▸aC J J
  ·exact fy<|O<|ea<|so h▸aC J J
 ·refine O<|bl J<|aK J<|fz h J (fun h=>?_) (fun h=>?_)
  ·refine ai<|Z J<|Z J<|bR h fun t1 E_ h=>ac J (bu jQ dK J J)<|ac J (bp XS J J)<|ac J (fun Y=>cI XS afV MK J) ?_;obtain⟨r2,r_,F_⟩:=og E_;have Q_:=fun V=>(r_ V).1;refine ac J (fun Y=>cC ae9 (ZA _ _ (Q_ Y)) ⟨(bg J Y),(bg J Y),aV⟩)<|X (cw (D J) (fun V=>(bg J V)) (fun V=>(r_ V).2) F_)<|Z J<|ac J (bu tv ji J J)<|ac J (bp kG J J)<|ac J (fun Y=>d9 (bg J Y) hI)<|cm J<|Z J<|ac J (bu tv ji J J)<|ac J (bp kG J J)<|ac J (fun Y=>ft (bg J Y) hI)<|cm J<|Z J<|ac J (bu u0 lC J J)<|ac J (bp kG J J)<|ac J (bu tv ji J J)<|ac J (bp kG J J)<|ac J (fun Y=>ec (bg J Y) hI)<|ac J (fun Y=>d9 (bg J Y) (bg J Y))<|cm J<|Z J<|ac J (bu u0 lC J J)<|ac J (bp kG J J)<|ac J (fun Y=>ft (bg J Y) hI) ?_;refine cm J<|dM J<|aJ<|ah<|an<|aN<|Z J<|X (fq (D J))<|bV h J (fun h=>?_) (fun h=>?_)
   ·exact O<|ea<|ae<|so h▸aC J J
   ·exact fy<|O<|ea<|so h▸aC J J
  ·refine ai<|bo<|aJ<|ah<|an<|aN<|Z J<|X (fq (D J))<|bV h J (fun h=>?_) (fun h=>?_)
   ·exact O<|ea<|ae<|so h▸aC J J
   ·exact fy<|O<|ea<|so h▸aC J J
def ZW m kind{R}(h:j7 m kind=some R):dk bt 114 [bI kind,da ew m] (fU R):=by
 refine dX func114 J<|O<|bo<|bC<|O<|aU qE pT bH J<|X (d9 (D J) hI)<|Z J<|ac J (bu qE pT J J)<|ac J (bp bH J J)<|ac J (fun Y=>eC (bg J Y) hI)<|cm J<|Z J<|ac J (bu rF ry J J)<|ac J (fun Y=>eg Bi J pe J (bg J Y))<|ac J (bp bH J J)<|ac J (ca J)<|ac J (fun Y=>dW (bg J Y) (bg J Y))<|cm J<|Z J ?_;refine bR h fun t u_ h=>ac J (bu rF ry J J)<|ac J (bp mX J J) ?_;obtain⟨r,h_,v_⟩:=og u_;have x_:=fun V=>(h_ V).1;exact ac J (fun Y=>cC aft (ZU _ (x_ Y)) ⟨(bg J Y),aV⟩)<|ac J (iq J)<|X (cw (D J) (fun V=>(bg J V)) (fun V=>(h_ V).2) v_)<|ba J<|so h▸aC J J
def abW m{R}(h:wp m=some R):dk bt 58 [tD ew m] (fU R):=by
 refine dX func58 J<|O<|eH J<|bo<|bC<|O<|X ((show dw _ _ _ _ ((nL bt ML td (fun(x:Int)=>(j7 m) x)))from A3 (cts:=[da ew m]) (caps:=[.tmp 1]) afu ⟨(D J),aV⟩ (fun x y h=>ZW _ _ h)))<|aK J<|aN<|aU rG nU bH J<|bC<|ak<|O<|bl J ?_;refine aK J<|fz h J (fun h=>?_) (fun h=>?_)
 ·refine O<|aU tu rz bH J<|X (d9 (D J) hI)<|Z J<|ac J (bu tu rz J J)<|ac J (bp bH J J)<|ac J (fun Y=>ft (bg J Y) hI)<|cm J<|Z J<|bR h fun t u_ h=>ac J (bu ux uw J J)<|ac J (bp AF J J) ?_;obtain⟨r,h_,v_⟩:=og u_;have x_:=fun V=>(h_ V).1;exact ac J (fun Y=>cC agF (ab4 _ (x_ Y)) ⟨(bg J Y),aV⟩)<|X (cw (D J) (fun V=>(bg J V)) (fun V=>(h_ V).2) v_)<|ba J<|cF<|so h▸aC J J
 ·refine dP (aH:=fun x=>pS m x=some R) (Of:=fun x=>[]) (Gf:=fun x=>[(1,da ew m),(3,(nL bt ML td (fun(x:Int)=>(j7 m) x))),(6,bI m.Kind),(22,fU x)]) (fun x h=>?_) (fun hx=>?_)
  ·skip;refine fz h J (fun h=>?_) (fun h=>?_)
   ·exact O<|bo<|bF<|cF<|so h▸aC J J
   ·refine O<|bl J<|aK J<|fz h J (fun h=>?_) (fun h=>?_)
    ·exact aw J<|bR h fun r1 I' h=>X (nP (args:=U2) (res:=DB) (f:=(fun(x:Int)=>(j7 m) x)) (x:=((1):Int)) (D J) I' ⟨hI,aV⟩)<|ba J<|cF<|so h▸aC J J
    ·refine O<|bl J<|aK J<|fz h J (fun h=>?_) (fun h=>?_)
     ·exact aw J<|bR h fun r2 Y' h=>X (nP (args:=U2) (res:=DB) (f:=(fun(x:Int)=>(j7 m) x)) (x:=((2):Int)) (D J) Y' ⟨hI,aV⟩)<|ba J<|cF<|so h▸aC J J
     ·refine O<|bl J<|aK J<|fz h J (fun h=>?_) (fun h=>?_)
      ·exact O<|aU rE rx wa J<|bl J<|Z J<|aB J (bu rE rx J J)<|aB J (bp wa J J)<|aB J (iq J)<|dG J<|ba J<|cF<|so h▸aC J J
      ·exact aW<|ah<|an<|O<|bo<|bF<|so h▸aC J J
  ·skip;refine O<|bl J<|aK J<|fz h J (fun h=>?_) (fun h=>?_)
   ·refine aW ?_;exact bE (hx (m.Kind==2) h) (aX J)
   ·refine O<|bl J<|aK J<|fz h J (fun h=>?_) (fun h=>?_)
    ·refine aW ?_;exact bE (hx (m.Kind==6) h) (aX J)
    ·refine ai<|bl J<|dM J<|aJ ?_;exact bE (hx (m.Kind==7) h) (aX J)
