/- cT of this claim: P7. -/
import Derived.Test.YtdohlidddcgfjaaGreatFaT
import Derived.Test.YtdohlidddcgfjaaGreatFaP6
set_option linter.all false
namespace Go.Proofs.YtdohlidddcgfjaaGreat
open Go
set_option maxRecDepth 100000

theorem QK(nodes:(List ap)){R:(List (List Int))×Int×Int}(h:lc nodes=some R):bk ba 82 [dM (aJ) nodes] (tT [dM (iW) R.1,cb R.2.1,cb R.2.2]):=by
 refine bk.of Tryz.func82 I I I fun w0 S0=>aj<|zo I (aN (show aK _ _ _ Ha from iE))<|zo I (dD)<|zo I (dD)<|ai<|Ca<|aa<|aj<|av I<|zo I (d5 ji I)<|zo I (d8 (ht I) hI)<|av I<|bI I I (fun hg=>cw I)<|bI I I (fun hg=>bw ji (aA I hg))<|bI I I (fun hg=>cH (aA I hg) hI)<|zo I (kh I I)<|ai<|bR h I (fun h=>?_) (fun h=>?_)
 ·refine aj<|zo I (aN (show aK _ _ _ Ha from iE))<|zo I (dD)<|zo I (dD)<|ai<|ah ?_;refine J (pp ?_);cases so h;exact rG I I I I
 ·refine dk<|aj<|av I<|zo I (fX (r:=rH bo [(1,.slice none 0 0),(2,.slice none 0 0)]) (y:=(⟨nodes,[],[],DK,[],[],[]⟩:al)) Sv ST (zH MU ⟨I,I,aZ⟩) (⟨_,_,_,_,_,I,SA JR I I,I,(ht I),I⟩))<|wL (ht I) I fun b=>cd true iW 69<|cd false cq 3 ?_;refine(show RG _ _ _ _ [df cq 3 none 0 sr,tip iW 69 none 0 KY,bx (rH bo [(1,ax none 0 KY.length),(2,ax none 0 sr.length)]) 168 b (⟨nodes,[],[],DK,[],[],[]⟩:al)] _ from ?_);refine aS I<|ai<|aj<|bA h fun r q_r h=>zo I (aG Uo (OQ q_r) trivial)<|aS I<|ai<|aj<|zo I (dD)<|ai<|aa<|Cb<|af<|aa<|aj<|av rfl<|zo rfl (d5 ji rfl)<|zo rfl (bm hI) ?_;refine ai ?_;refine KM (Z:=fun wrong ob l c l1 c1=>jN nodes wrong ob=some R) (Of:=fun wrong ob l c l1 c1=>[bx (rH bo [(1,ax l c ob.kinds.length),(2,ax l1 c1 ob.open_.length)]) 168 b ob,tip iW 69 l c ob.kinds,df cq 3 l1 c1 ob.open_]) (Gf:=fun wrong ob l c l1 c1=>[(0,dM (aJ) nodes),(5,tV (aL b 0)),(7,cb wrong)]) (fun wrong ob l c l1 c1 h=>?_) (fun K=>?_)
  ·skip
   refine af ?_;refine dj (Z:=fun wrong1=>lb ob wrong1=some R) (Of:=fun wrong1=>[bx (rH bo [(1,ax l c ob.kinds.length),(2,ax l1 c1 ob.open_.length)]) 168 b ob,tip iW 69 l c ob.kinds,df cq 3 l1 c1 ob.open_]) (Gf:=fun wrong1=>[(5,tV (aL b 0)),(7,cb wrong1)]) (fun wrong1 h=>?_) (fun K1=>?_)
   ·skip
    refine aa<|aj<|av I<|zo I (dc (ht I) hI)<|ai<|bR h I (fun h=>?_) (fun h=>?_)
    ·refine aj<|av I<|zo I (aN (show aK _ _ _ Ha from iE))<|aS I<|zo I (dD)<|ai<|ah ?_;refine J (pp ?_);refine aX<|aX<|aX ?_;cases so h;exact rG I I I I
    ·refine dk<|aj<|cd false iW 69<|zo I (aN sf)<|ai<|aa<|aj<|av I<|zo I (bg (ht I))<|zo I (fe 1 AC I I I)<|zo I (mn M9 I (.tail _ (.head _)) (.tail _ (.tail _ (.head _))) (ht I))<|zo I (bw rN (io (ht I)))<|zo I (bm hI)<|ai<|ak<|KJ<|KL 61 I<|aT (k:=61) I fun hN=>bn ?_;refine fS<|dB<|fS<|fS ?_;refine aD (gF (Z:=fun ls i out l2 c2=>(ob.kinds.drop i=ls)∧mO ls out=some R) (Of:=fun _ i out l2 c2=>[df iW 69 l2 c2 out,bx (rH bo [(1,ax l c ob.kinds.length),(2,ax l1 c1 ob.open_.length)]) 168 b ob,tip iW 69 l c ob.kinds,df cq 3 l1 c1 ob.open_]) (Gf:=fun _ i out l2 c2=>[(10,oY l2 c2 out),(61,dM (iW) ob.kinds),(62,iB ob.kinds),(63,cb (i:Int))]) (fun i out l2 c2 h=>?_) (fun e tl ih i out l2 c2 h=>?_) ob.kinds 0 KY none 0 ⟨I,h⟩) (aR I)
     ·obtain⟨hx,h⟩:=h
      refine aq<|aj<|zo I (ek I I)<|ai<|aa<|bu (ht I) (de hx)<|bc ?_;refine M (M (aC ?_));refine af<|aj<|av rfl<|aS rfl<|zo rfl (dD)<|zo rfl (dD)<|ai<|ah<|pp<|ea<|bS 10 rfl<|bS 73 rfl<|bS 2 rfl<|fT 2 rfl<|aX<|aX<|aX<|aX ?_;cases so h;exact rG I I I I
     ·obtain⟨hx,h⟩:=h
      refine aq<|aj<|zo I (ek I I)<|ai<|aa<|bt (ht I) (cX hx)<|dk<|aa<|ak<|aj<|zo I (gI rN bV I I I (cS hx))<|zo I (bf bV I I)<|aS I<|ai<|ae<|av I<|av I<|bA h fun r1 q_r1 h=>cY MF (Gw _ q_r1) ⟨(ht I),aZ⟩ I fun l3 c3=>?_;refine db<|ca 69 I<|zo I (aH (r:=tw) (ys:=[r1]) (xs:=[.tmp 69]) rN bV I I I I I ⟨(io (ht I)),aZ⟩)<|bT<|bA h fun out1 q_out1 h=>be bV I I I I rN I I (ht I) (ht I) q_out1 fun l4 c4=>aS I<|ay<|ac<|af<|ae<|zo rfl (jL (cy hx hN) rfl)<|av rfl<|ay<|aV<|aX ?_;exact aM (aD (ih (i+1) out1 l4 c4 ⟨cx hx,h⟩) (aR I))
   ·skip
    refine aj<|av I<|zo I (d8 (ht I) hI)<|av I<|aO I I (fun hg=>cw I)<|aO I I (fun hg=>bg (aA I hg))<|aO I I (fun hg=>bU (n:=2) rD I (aA I hg) I)<|aO I I (fun hg=>nG bV I (.head _) (aA I hg))<|aO I I (fun hg=>hY cR (.tail _ (.tail _ (.head _))) (aA I hg))<|aO I I (fun hg=>bM (aA I hg) hI)<|zo I (fV I I)<|ai<|bR h I (fun h=>?_) (fun h=>?_)
    ·refine ae<|av I<|zo I (d5 ji I)<|zo I (dG (ht I) hI)<|aS I<|ay ?_;exact bD (K1 (IntKind.i64.wrap ((nodes.length:Int)-(1:Int))) h) (aR I)
    ·refine aP ?_;exact bD (K1 wrong h) (aR I)
  ·skip
   refine aT (k:=25) I fun hN1=>bn<|dB<|po ?_;refine aD (B3 (Z:=fun ls1 i1 wrong2 ob1 l5 c5 l6 c6=>(nodes.drop i1=ls1)∧gh nodes r ls1 i1 wrong2 ob1=some R) (Of:=fun _ i1 wrong2 ob1 l5 c5 l6 c6=>[bx (rH bo [(1,ax l5 c5 ob1.kinds.length),(2,ax l6 c6 ob1.open_.length)]) 168 b ob1,tip iW 69 l5 c5 ob1.kinds,df cq 3 l6 c6 ob1.open_]) (Gf:=fun _ i1 wrong2 ob1 l5 c5 l6 c6=>[(0,dM (aJ) nodes),(5,tV (aL b 0)),(6,Sx (fun y:(al→Unit→Option (Bool×al))=>o4 (fun bb=>eg ba (fun(x:Unit)=>[tV (aL bb 0)]) (eD bb) o0 y)) Ah r),(7,cb wrong2),(25,dM (aJ) nodes),(26,iB nodes),(27,cb (i1:Int))]) (fun i1 wrong2 ob1 l5 c5 l6 c6 h=>?_) (fun e1 tl1 ih1 i1 wrong2 ob1 l5 c5 l6 c6 h=>?_) nodes 0 xR (⟨nodes,[],[],DK,[],[],[]⟩:al) none 0 none 0 ⟨I,h⟩) (aR I)
   ·obtain⟨hx1,h⟩:=h
    refine aq<|aj<|zo I (ek I I)<|ai<|aa<|bu (ht I) (de hx1)<|bc ?_;refine M (M (aC ?_));exact bD (K wrong2 ob1 l5 c5 l6 c6 h) (aR I)
   ·obtain⟨hx1,h⟩:=h
    refine aq<|aj<|zo I (ek I I)<|ai<|aa<|bt (ht I) (cX hx1)<|dk<|aa<|ak<|aj<|av I<|zo I (gI ji ej I I I (cS hx1))<|zo I (bf ej I I)<|bJ (r:=aJ) (x:=DK) ej (fun _=>iX _) I fun b1=>aS I<|aQ ej I aY I (ht I) (ht I)<|bE 9 I<|ai<|aa ?_;refine ae<|av I<|av I<|av I<|zo I (aU eJ cg I I)<|zo I (bf bp I I)<|zo I (F0 (γ:=(fun y:(al→Unit→Option (Bool×al))=>o4 (fun bb=>eg ba (fun(x:Unit)=>[tV (aL bb 0)]) (eD bb) xS y))) (z:=(fun _ _=>none)) Ae (iz ov) R8 (fun _ _=>CX) (ht I) (sw (ht I)))<|bA h fun r2 q_r2 h=>eS (EffOK.fr2 (EffOK.fr2 (EffOK.fr2 (da (xs:=[.tmp 32,.tmp 33,.tmp 37]) (ts:=[tV (aL b 0),cb (i1:Int),o4 (fun bb=>eg ba (fun(x:Unit)=>[tV (aL bb 0)]) (eD bb) o0 ((tg r e1.Op).getD (fun _ _=>none)))]) (eD b ob1 (wT [(l5,c5),(l6,c6)])) _ I Un (RC b (wT [(l5,c5),(l6,c6)]) ob1 _ _ q_r2) ⟨(ht I),(ht I),(ht I),aZ⟩ (fun _=>I))))) I fun i2=>?_;refine(show RG _ _ _ _ [bx (rH bo [(1,ax (i2.h 0).1 (i2.h 0).2 r2.2.kinds.length),(2,ax (i2.h 1).1 (i2.h 1).2 r2.2.open_.length)]) 168 b r2.2,tip iW 69 (i2.h 0).1 (i2.h 0).2 r2.2.kinds,df cq 3 (i2.h 1).1 (i2.h 1).2 r2.2.open_] ((38,fx r2.1)::_)from ?_);refine zo I (dP (ht I))<|ai<|bR h I (fun h=>?_) (fun h=>?_)
    ·refine aj<|av I<|aS I<|ai<|bc ?_;refine cF I (M (M (aC ?_)));exact bD (K (i1:Int) r2.2 (i2.h 0).1 (i2.h 0).2 (i2.h 1).1 (i2.h 1).2 h) (aR I)
    ·refine aP<|ac<|af<|ae<|zo rfl (jL (cy hx1 hN1) rfl)<|av rfl<|ay ?_;exact aM (aD (ih1 (i1+1) wrong2 r2.2 (i2.h 0).1 (i2.h 0).2 (i2.h 1).1 (i2.h 1).2 ⟨cx hx1,h⟩) (aR I))

theorem Q7(p:dn){R:Bool}(h:xy p=some R):bk ba 40 [tD iy p] (fx R):=by
 refine bk.of Tryz.func40 I I I fun w0 S0=>aj<|zo I (kp I)<|zo I (dd)<|ai<|aj<|zo I (aN (show aK _ _ _ ((kG ba E7 o0 (fun(x:Int)=>pH x)))from(L6 Va fun x y h=>QL _ h)))<|ai<|aa<|aj<|zo I (aU lE fQ I I)<|zo I (bf tA I I)<|zo I (d5 pS I)<|zo I (bm hI)<|ai<|ak<|aT (k:=12) I fun hN=>bn ?_;refine aD (dv (Z:=fun ls i=>(p.Frags.drop i=ls)∧mS p ls=some R) (Of:=fun _ i=>[]) (Gf:=fun _ i=>[(1,ce iy p),(3,(kG ba E7 o0 (fun(x:Int)=>pH x))),(12,dM (fa) p.Frags),(13,iB p.Frags),(14,cb (i:Int))]) (fun i h=>?_) (fun e tl ih i h=>?_) p.Frags 0 ⟨I,h⟩) (aR I)
 ·obtain⟨hx,h⟩:=h
  refine aq<|aj<|zo I (ek I I)<|ai<|aa<|bu (ht I) (de hx)<|bc ?_;refine M (M (aC ?_));refine af<|aj<|zo rfl (aU lE fQ rfl rfl)<|zo rfl (bf tA rfl rfl)<|zo rfl (d5 pS rfl)<|zo rfl (dc (ht rfl) hI)<|av rfl<|aO rfl rfl (fun hg=>aU lE fQ I I)<|aO I I (fun hg=>am tA I I (aA I hg))<|aO I I (fun hg=>bw pS (aA I hg))<|aO I I (fun hg=>dV (aA I hg) hI)<|zo I (fV I I)<|aS I<|ai<|ah ?_;cases so h;exact aw I I
 ·obtain⟨hx,h⟩:=h
  refine aq<|aj<|zo I (ek I I)<|ai<|aa<|bt (ht I) (cX hx)<|dk<|aa<|ak<|aj<|zo I (gI pS ml I I I (cS hx))<|zo I (bf ml I I)<|bJ (r:=fa) (x:=DL) ml (fun _=>rn _) I fun b=>aQ ml I aY I (ht I) (ht I)<|bE 5 I<|ai<|aj<|zo I (aU re kC I I) ?_;refine zo I (bf ox I I)<|bA h fun r q_r h=>zo I (aG U9 (QK _ q_r) ⟨(ht I),aZ⟩)<|av I<|zo I (nj I I)<|zo I (nj I I)<|zo I (nj I I)<|aS I<|aS I<|aS I<|ai<|aj<|zo I (aU tm mU I I)<|zo I (bf bp I I)<|zo I (d6 I)<|av I<|bI I I (fun hg=>aU tm mU I I)<|bI I I (fun hg=>am bp I I (aA I hg))<|bI I I (fun hg=>bz (aA I hg) hI)<|zo I (kh I I)<|aS I<|ay ?_;refine af<|aj<|zo rfl (aU tk mT rfl rfl)<|zo rfl (bf bp rfl rfl)<|zo rfl (dc (ht rfl) hI)<|av rfl<|aO rfl rfl (fun hg=>aU tk mT I I)<|aO I I (fun hg=>am bp I I (aA I hg))<|aO I I (fun hg=>dV (aA I hg) hI)<|zo I (fV I I)<|av I<|aO I I (fun hg=>aU qm jV I I)<|aO I I (fun hg=>am bV I I (aA I hg))<|aO I I (fun hg=>bw cR (aA I hg))<|aO I I (fun hg=>dV (aA I hg) hI)<|zo I (fV I I)<|av I<|bA h fun t q_t h=>aO I I (fun hg=>aU qm jV I I)<|aO I I (fun hg=>am bV I I (aA I hg))<|aO I I (fun hg=>cw I) ?_
  obtain⟨r1,h1t,h0t⟩:=og q_t
  have q_r1g:=fun hb=>(h1t hb).1
  refine aO I I (fun hg=>aG RM (HV _ _ (q_r1g hg)) ⟨(aA I hg),(aA I hg),aZ⟩)<|aO I I (fun hg=>dP (aA I hg))<|zo I (bN (ht I) (fun hb=>(aA I hb)) (fun hb=>(h1t hb).2) h0t)<|aS I<|ai<|aj<|av I<|zo I (Aq I)<|av I<|bI I I (fun hg=>cw I)<|bI I I (fun hg=>dP (aA I hg))<|zo I (kh I I)<|av I<|bI I I (fun hg=>cw I)<|bI I I (fun hg=>dP (aA I hg))<|zo I (kh I I)<|ai<|bR h I (fun h=>?_) (fun h=>?_)
  ·refine aj<|zo I (dd)<|ai<|ah ?_;refine au (J (J (au (J ?_))));cases so h;exact aw I I
  ·refine aP<|ac<|af<|ae<|zo rfl (jL (cy hx hN) rfl)<|av rfl<|ay ?_;exact aM (aD (ih (i+1) ⟨cx hx,h⟩) (aR I))

theorem OJ(n:Int){R:Bool}(h:ux n=some R):bk ba 154 [tD lq n] (fx R):=by
 refine bk.of Tryz.func154 I I I fun w0 S0=>aj<|zo I (dd)<|ai<|aj<|av I<|zo I (dc (ht I) hI)<|av I<|aO I I (fun hg=>cw I)<|aO I I (fun hg=>dV (aA I hg) hI)<|zo I (fV I I)<|aS I<|ai<|ah ?_;cases so h;exact aw I I

theorem N1(s:(List (List aF)))(f:((List aF)→Option Bool)){R:Int}(h:gZ s f=some R):bk ba 248 [dM (pZ) s,(kG ba PV o0 (fun(x:(List aF))=>f x))] (cb R):=by
 refine bk.of Tryz.func248 I I I fun w0 S0=>aj<|zo I (dD)<|ai<|aa<|aj<|av I<|zo I (d5 nV I)<|zo I (bm hI)<|ai<|ak<|aT (k:=6) I fun hN=>bn ?_;refine aD (dv (Z:=fun ls i=>(s.drop i=ls)∧dW f ls i=some R) (Of:=fun _ i=>[]) (Gf:=fun _ i=>[(0,dM (pZ) s),(1,(kG ba PV o0 (fun(x:(List aF))=>f x))),(7,iB s),(8,cb (i:Int))]) (fun i h=>?_) (fun e tl ih i h=>?_) s 0 ⟨I,h⟩) (aR I)
 ·obtain⟨hx,h⟩:=h
  refine aq<|aj<|zo I (ek I I)<|ai<|aa<|bu (ht I) (de hx)<|bc ?_;refine M (M (aC ?_));refine af<|aj<|zo rfl (dD)<|ai<|ah ?_;cases so h;exact aw I I
 ·obtain⟨hx,h⟩:=h
  refine aq<|aj<|zo I (ek I I)<|ai<|aa<|bt (ht I) (cX hx)<|dk<|aa<|ak<|aj<|av I<|aS I<|ai<|aj<|av I<|av I<|av I<|zo I (gI nV pV I I I (cS hx)) ?_;refine zo I (bf pV I I)<|bA h fun r q_r h=>zo I (kM (args:=(fun(x:(List aF))=>[tD pZ x])) (res:=xS) (f:=(fun(x:(List aF))=>f x)) (x:=((e):(List aF))) (ht I) q_r ⟨(ht I),aZ⟩)<|ai<|bR h I (fun h=>?_) (fun h=>?_)
  ·refine aj<|av I<|aS I<|ai<|ah ?_;refine au (J (J (au (J ?_))));cases so h;exact aw I I
  ·refine aP<|ac<|af<|ae<|zo rfl (jL (cy hx hN) rfl)<|av rfl<|ay ?_;exact aM (aD (ih (i+1) ⟨cx hx,h⟩) (aR I))

theorem Og(s:(List (List aF)))(f:((List aF)→Option Bool)){R:Bool}(h:eY s f=some R):bk ba 228 [dM (pZ) s,(kG ba PV o0 (fun(x:(List aF))=>f x))] (fx R):=by
 refine bk.of Tryz.func228 I I I fun w0 S0=>aj<|zo I (dd)<|ai<|aj<|av I<|av I<|bA h fun r q_r h=>zo I (aG Tl (N1 _ _ q_r) ⟨(ht I),(ht I),aZ⟩)<|zo I (dc (ht I) hI)<|aS I<|ai<|ah ?_;cases so h;exact aw I I

theorem NX(v:aF){R:Bool}(h:qP v=some R):bk ba 258 [tD bF v] (fx R):=by
 refine bk.of Tryz.func258 I I I fun w0 S0=>aj<|zo I (kp I)<|zo I (dd)<|ai<|aj<|zo I (bf ft I I)<|bA h fun r q_r h=>zo I (aG MA (Ev _ q_r) ⟨(ht I),aZ⟩)<|zo I (Aq I)<|aS I<|ai<|ah ?_;cases so h;exact aw I I

theorem NT(s:(List aF))(f:(aF→Option Bool)){R:Int}(h:j0 s f=some R):bk ba 264 [dM (bF) s,(kG ba K5 o0 (fun(x:aF)=>f x))] (cb R):=by
 refine bk.of Tryz.func264 I I I fun w0 S0=>aj<|zo I (dD)<|ai<|aa<|aj<|av I<|zo I (d5 pY I)<|zo I (bm hI)<|ai<|ak<|aT (k:=6) I fun hN=>bn ?_;refine aD (dv (Z:=fun ls i=>(s.drop i=ls)∧cZ f ls i=some R) (Of:=fun _ i=>[]) (Gf:=fun _ i=>[(0,dM (bF) s),(1,(kG ba K5 o0 (fun(x:aF)=>f x))),(7,iB s),(8,cb (i:Int))]) (fun i h=>?_) (fun e tl ih i h=>?_) s 0 ⟨I,h⟩) (aR I)
 ·obtain⟨hx,h⟩:=h
  refine aq<|aj<|zo I (ek I I)<|ai<|aa<|bu (ht I) (de hx)<|bc ?_;refine M (M (aC ?_));refine af<|aj<|zo rfl (dD)<|ai<|ah ?_;cases so h;exact aw I I
 ·obtain⟨hx,h⟩:=h
  refine aq<|aj<|zo I (ek I I)<|ai<|aa<|bt (ht I) (cX hx)<|dk<|aa<|ak<|aj<|av I<|aS I<|ai<|aj<|av I<|av I<|av I<|zo I (gI pY ft I I I (cS hx)) ?_;refine zo I (bf ft I I)<|bA h fun r q_r h=>zo I (kM (args:=K5) (res:=xS) (f:=(fun(x:aF)=>f x)) (x:=((e):aF)) (ht I) q_r ⟨(ht I),aZ⟩)<|ai<|bR h I (fun h=>?_) (fun h=>?_)
  ·refine aj<|av I<|aS I<|ai<|ah ?_;refine au (J (J (au (J ?_))));cases so h;exact aw I I
  ·refine aP<|ac<|af<|ae<|zo rfl (jL (cy hx hN) rfl)<|av rfl<|ay ?_;exact aM (aD (ih (i+1) ⟨cx hx,h⟩) (aR I))

theorem NW(s:(List aF))(f:(aF→Option Bool)){R:Bool}(h:gk s f=some R):bk ba 259 [dM (bF) s,(kG ba K5 o0 (fun(x:aF)=>f x))] (fx R):=by
 refine bk.of Tryz.func259 I I I fun w0 S0=>aj<|zo I (dd)<|ai<|aj<|av I<|av I<|bA h fun r q_r h=>zo I (aG Tb (NT _ _ q_r) ⟨(ht I),(ht I),aZ⟩)<|zo I (dc (ht I) hI)<|aS I<|ai<|ah ?_;cases so h;exact aw I I

theorem N0(r:(List aF)){R:Bool}(h:wj r=some R):bk ba 249 [dM (bF) r] (fx R):=by
 refine bk.of Tryz.func249 I I I fun w0 S0=>aj<|zo I (dd)<|ai<|aj<|zo I (aN (show aK _ _ _ ((kG ba K5 o0 (fun(x:aF)=>qP x)))from(L6 Tf fun x y h=>NX _ h)))<|ai<|aj<|av I<|zo I (d5 pY I)<|zo I (dV (ht I) hI)<|av I<|bA h fun t q_t h=>aO I I (fun hg=>cw I)<|aO I I (fun hg=>cw I) ?_
 obtain⟨r1,h1t,h0t⟩:=og q_t
 have q_r1g:=fun hb=>(h1t hb).1
 refine aO I I (fun hg=>aG Te (NW _ _ (q_r1g hg)) ⟨(aA I hg),(aA I hg),aZ⟩)<|aO I I (fun hg=>dP (aA I hg))<|zo I (bN (ht I) (fun hb=>(aA I hb)) (fun hb=>(h1t hb).2) h0t)<|aS I<|ai<|ah ?_;cases so h;exact aw I I

theorem Od(r:(List aF)){R:Int}(h:wk r=some R):bk ba 230 [dM (bF) r] (cb R):=by
 refine bk.of Tryz.func230 I I I fun w0 S0=>aj<|zo I (dD)<|ai<|aa<|aj<|av I<|bA h fun r1 q_r1 h=>zo I (aG Tk (N0 _ q_r1) ⟨(ht I),aZ⟩)<|zo I (dP (ht I))<|ai<|bR h I (fun h=>?_) (fun h=>?_)
 ·refine aj<|zo I (dD)<|ai<|ah<|J ?_;cases so h;exact aw I I
 ·refine dk<|aj<|zo I (dD)<|ai<|ah ?_;cases so h;exact aw I I

theorem Oe(r:(List aF)){R:Bool}(h:vO r=some R):bk ba 229 [dM (bF) r] (fx R):=by
 refine bk.of Tryz.func229 I I I fun w0 S0=>aj<|zo I (dd)<|ai<|aj<|av I<|bA h fun r1 q_r1 h=>zo I (aG TA (Od _ q_r1) ⟨(ht I),aZ⟩)<|zo I (Aq I)<|aS I<|ai<|ah ?_;cases so h;exact aw I I

theorem Ov(l:(List (List aF))){R:Bool}(h:wz l=some R):bk ba 197 [dM (pZ) l] (fx R):=by
 refine bk.of Tryz.func197 I I I fun w0 S0=>aj<|zo I (dd)<|ai<|aj<|av I<|zo I (d5 nV I)<|zo I (cH (ht I) hI)<|av I<|aO I I (fun hg=>cw I)<|aO I I (fun hg=>bw nV (aA I hg))<|aO I I (fun hg=>dV (aA I hg) hI)<|zo I (fV I I)<|av I<|bA h fun t q_t h=>aO I I (fun hg=>cw I) ?_
 obtain⟨r,h1t,h0t⟩:=og q_t
 have q_rg:=fun hb=>(h1t hb).1
 refine aO I I (fun hg=>aG TC (Og _ _ (q_rg hg)) ⟨(aA I hg),(L6 TB fun x y h=>Oe _ h),aZ⟩)<|aO I I (fun hg=>dP (aA I hg))<|zo I (bN (ht I) (fun hb=>(aA I hb)) (fun hb=>(h1t hb).2) h0t)<|aS I<|ai<|ah ?_;cases so h;exact aw I I

theorem OH(b:dH)(seq:Int){R:Bool}(h:uy b seq=some R):bk ba 155 [tD lv b,tD o3 seq] (fx R):=by
 refine bk.of Tryz.func155 I I I fun w0 S0=>aj<|zo I (kp I)<|zo I (dd)<|ai<|aa<|aj<|av I<|zo I (d8 (ht I) hI)<|av I<|bI I I (fun hg=>cw I)<|bI I I (fun hg=>cH (aA I hg) hI)<|zo I (kh I I)<|ai<|bR h I (fun h=>?_) (fun h=>?_)
 ·refine aj<|zo I (dd)<|ai<|ah<|J ?_;cases so h;exact aw I I
 ·refine dk<|aa<|aj<|zo I (aU qq iG I I)<|zo I (bf As I I)<|ai<|bR h I (fun h=>?_) (fun h=>?_)
  ·refine aj<|zo I (aU pL ic I I)<|zo I (bf xW I I)<|zo I (d5 nV I)<|zo I (d6 I)<|av I<|aO I I (fun hg=>aU qp iF I I)<|aO I I (fun hg=>am jZ I I (aA I hg))<|aO I I (fun hg=>cw I)<|aO I I (fun hg=>dG (aA I hg) hI)<|aO I I (fun hg=>bz (aA I hg) (aA I hg))<|zo I (fV I I)<|aS I<|ai<|ah<|J ?_;cases so h;exact aw I I
  ·refine dk<|aj<|zo I (aU qp iF I I)<|zo I (bf jZ I I)<|zo I (d6 I)<|av I<|bA h fun t q_t h=>aO I I (fun hg=>aU pL ic I I)<|aO I I (fun hg=>am xW I I (aA I hg)) ?_
   obtain⟨r,h1t,h0t⟩:=og q_t
   have q_rg:=fun hb=>(h1t hb).1
   refine aO I I (fun hg=>aG TQ (Ov _ (q_rg hg)) ⟨(aA I hg),aZ⟩)<|zo I (bN (ht I) (fun hb=>(aA I hb)) (fun hb=>(h1t hb).2) h0t)<|aS I<|ai<|ah ?_;cases so h;exact aw I I

theorem Oc(a1:(List aF))(b:(List aF)){R:Bool}(h:tG a1 b=some R):bk ba 231 [dM (bF) a1,dM (bF) b] (fx R):=by
 refine bk.of Tryz.func231 I I I fun w0 S0=>aj<|zo I (dd)<|ai<|aj<|av I<|av I<|bA h fun r q_r h=>zo I (aG S7 (Mf _ _ q_r) ⟨(ht I),(ht I),aZ⟩)<|aS I<|ai<|ah ?_;cases so h;exact aw I I

theorem Ou(a1:(List (List aF)))(b:(List (List aF))){R:Bool}(h:yd a1 b=some R):bk ba 198 [dM (pZ) a1,dM (pZ) b] (fx R):=by
 refine bk.of Tryz.func198 I I I fun w0 S0=>aj<|zo I (dd)<|ai<|aj<|av I<|av I<|bA h fun r q_r h=>zo I (aG S8 (Mg _ _ _ q_r) ⟨(ht I),(ht I),(L6 Tz fun x y h=>Oc _ _ h),aZ⟩)<|aS I<|ai<|ah ?_;cases so h;exact aw I I

theorem OG(a1:dH)(b:dH){R:Bool}(h:wy a1 b=some R):bk ba 156 [tD lv a1,tD lv b] (fx R):=by
 refine bk.of Tryz.func156 I I I fun w0 S0=>aj<|zo I (kp I)<|zo I (kp I)<|zo I (dd)<|ai<|aj<|zo I (aU qq iG I I)<|zo I (bf As I I)<|zo I (aU qq iG I I)<|zo I (bf As I I)<|zo I (Az DF (ht I) (ht I))<|av I<|aO I I (fun hg=>aU qp iF I I)<|aO I I (fun hg=>am jZ I I (aA I hg))<|aO I I (fun hg=>aU qp iF I I)<|aO I I (fun hg=>am jZ I I (aA I hg))<|aO I I (fun hg=>bz (aA I hg) (aA I hg))<|zo I (fV I I)<|av I<|bA h fun t q_t h=>?_;refine aO I I (fun hg=>aU pL ic I I)<|aO I I (fun hg=>am xW I I (aA I hg))<|aO I I (fun hg=>aU pL ic I I)<|aO I I (fun hg=>am xW I I (aA I hg)) ?_
 obtain⟨r,h1t,h0t⟩:=og q_t
 have q_rg:=fun hb=>(h1t hb).1
 refine aO I I (fun hg=>aG TP (Ou _ _ (q_rg hg)) ⟨(aA I hg),(aA I hg),aZ⟩)<|zo I (bN (ht I) (fun hb=>(aA I hb)) (fun hb=>(h1t hb).2) h0t)<|aS I<|ai<|ah ?_;cases so h;exact aw I I

theorem OY(p:co){R:Int}(h:ol p=some R):bk ba 115 [tD eU p] (cb R):=by
 refine bk.of Tryz.func115 I I I fun w0 S0=>aj<|zo I (kp I)<|zo I (dD)<|ai<|aj<|zo I (aU uA kS I I)<|zo I (bf oy I I)<|bA h fun r q_r h=>zo I (aG Uh (OJ _ q_r) ⟨(ht I),aZ⟩)<|aS I<|ai<|aa<|aj<|zo I (aU uB kT I I)<|zo I (bf bp I I)<|ai<|ak ?_;refine aj<|zo I (d6 I)<|aS I<|ai<|bR h I (fun h=>?_) (fun h=>?_)
 ·refine ae<|av I<|av I<|aO I I (fun hg=>aU rh ir I I)<|aO I I (fun hg=>am jZ I I (aA I hg))<|aO I I (fun hg=>bz (aA I hg) hI)<|zo I (fV I I)<|av I<|bA h fun t q_t h=>aO I I (fun hg=>aU iI cU I I)<|aO I I (fun hg=>am Na I I (aA I hg))<|aO I I (fun hg=>aU o9 f6 I I)<|aO I I (fun hg=>am jZ I I (aA I hg)) ?_
  obtain⟨r1,h1t,h0t⟩:=og q_t
  have q_r1g:=fun hb=>(h1t hb).1
  refine aO I I (fun hg=>aG Ug (OH _ _ (q_r1g hg)) ⟨(aA I hg),(aA I hg),aZ⟩)<|zo I (bN (ht I) (fun hb=>(aA I hb)) (fun hb=>(h1t hb).2) h0t)<|aS I<|ay<|ac<|af<|aa<|aj<|av rfl<|zo rfl (dP (ht rfl))<|ai<|bR h rfl (fun h=>?_) (fun h=>?_)
  ·refine aj<|zo I (dD)<|ai<|ah<|J ?_;cases so h;exact aw I I
  ·refine dk<|aj<|zo I (dD)<|ai<|ah ?_;cases so h;exact aw I I
 ·refine aj<|zo I (d6 I)<|aS I<|ai<|bR h I (fun h=>?_) (fun h=>?_)
  ·refine ae<|av I<|av I<|bA h fun t1 q_t1 h=>aO I I (fun hg=>aU iI cU I I)<|aO I I (fun hg=>am Na I I (aA I hg))<|aO I I (fun hg=>fX (y:=(⟨[],false,(0:Int)⟩:dH)) Na UW E6 (I)) ?_
   obtain⟨r2,h1t1,h0t1⟩:=og q_t1
   have q_r2g:=fun hb=>(h1t1 hb).1
   refine aO I I (fun hg=>aG Uf (OG _ _ (q_r2g hg)) ⟨(aA I hg),(aA I hg),aZ⟩)<|zo I (bN (ht I) (fun hb=>(aA I hb)) (fun hb=>(h1t1 hb).2) h0t1)<|av I<|aO I I (fun hg=>aU o9 f6 I I)<|aO I I (fun hg=>am jZ I I (aA I hg))<|aO I I (fun hg=>dc (aA I hg) hI)<|zo I (fV I I)<|av I<|aO I I (fun hg=>aU o9 f6 I I)<|aO I I (fun hg=>am jZ I I (aA I hg))<|aO I I (fun hg=>dV (aA I hg) hI)<|zo I (fV I I)<|av I<|aO I I (fun hg=>aU rh ir I I)<|aO I I (fun hg=>am jZ I I (aA I hg))<|aO I I (fun hg=>aU o9 f6 I I)<|aO I I (fun hg=>am jZ I I (aA I hg))<|aO I I (fun hg=>dG (aA I hg) hI)<|aO I I (fun hg=>dc (aA I hg) (aA I hg))<|zo I (fV I I)<|av I<|aO I I (fun hg=>aU rh ir I I)<|aO I I (fun hg=>am jZ I I (aA I hg))<|aO I I (fun hg=>dV (aA I hg) hI) ?_;refine zo I (fV I I)<|aS I<|ay<|ac<|af<|aa<|aj<|av rfl<|zo rfl (dP (ht rfl))<|ai<|bR h rfl (fun h=>?_) (fun h=>?_)
   ·refine aj<|zo I (dD)<|ai<|ah<|J ?_;cases so h;exact aw I I
   ·refine dk<|aj<|zo I (dD)<|ai<|ah ?_;cases so h;exact aw I I
  ·refine ae<|zo I (dd)<|ay<|ac<|af<|aa<|aj<|av rfl<|zo rfl (dP (ht rfl))<|ai<|bR h rfl (fun h=>?_) (fun h=>?_)
   ·refine aj<|zo I (dD)<|ai<|ah<|J ?_;cases so h;exact aw I I
   ·refine dk<|aj<|zo I (dD)<|ai<|ah ?_;cases so h;exact aw I I

theorem OZ(m:cu)(kind:Int){R:Bool}(h:ib m kind=some R):bk ba 114 [cb kind,ce dN m] (fx R):=by
 refine bk.of Tryz.func114 I I I fun w0 S0=>aj<|zo I (dd)<|ai<|aj<|zo I (aU pJ mu I I)<|zo I (bf bp I I)<|zo I (dc (ht I) hI)<|av I<|aO I I (fun hg=>aU pJ mu I I)<|aO I I (fun hg=>am bp I I (aA I hg))<|aO I I (fun hg=>d8 (aA I hg) hI)<|zo I (fV I I)<|av I<|aO I I (fun hg=>aU pI mt I I)<|aO I I (fun hg=>cK uB I kT I (aA I hg))<|aO I I (fun hg=>am bp I I (aA I hg))<|aO I I (fun hg=>cw I)<|aO I I (fun hg=>bz (aA I hg) (aA I hg))<|zo I (fV I I)<|av I ?_;refine bA h fun t q_t h=>aO I I (fun hg=>aU pI mt I I)<|aO I I (fun hg=>am xV I I (aA I hg)) ?_
 obtain⟨r,h1t,h0t⟩:=og q_t
 have q_rg:=fun hb=>(h1t hb).1
 refine aO I I (fun hg=>aG Uv (OY _ (q_rg hg)) ⟨(aA I hg),aZ⟩)<|aO I I (fun hg=>bz (aA I hg) hI)<|zo I (bN (ht I) (fun hb=>(aA I hb)) (fun hb=>(h1t hb).2) h0t)<|aS I<|ai<|ah ?_;cases so h;exact aw I I

theorem QZ(m:cu){R:Bool}(h:rC m=some R):bk ba 58 [tD dN m] (fx R):=by
 refine bk.of Tryz.func58 I I I fun w0 S0=>aj<|zo I (kp I)<|zo I (dd)<|ai<|aj<|zo I ((show cE _ _ _ _ ((kG ba E7 o0 (fun(x:Int)=>(ib m) x)))from vL (cts:=[ce dN m]) (caps:=[.tmp 1]) Uw ⟨(ht I),aZ⟩ (fun x y h=>OZ _ _ h)))<|aS I<|ai<|aa<|aj<|zo I (aU pK lD I I)<|zo I (bf bp I I)<|ai<|ak<|aj<|zo I (d6 I) ?_;refine aS I<|ai<|bR h I (fun h=>?_) (fun h=>?_)
 ·refine aj<|zo I (aU qo nO I I)<|zo I (bf bp I I)<|zo I (dc (ht I) hI)<|av I<|aO I I (fun hg=>aU qo nO I I)<|aO I I (fun hg=>am bp I I (aA I hg))<|aO I I (fun hg=>dV (aA I hg) hI)<|zo I (fV I I)<|av I<|bA h fun t q_t h=>aO I I (fun hg=>aU rf oI I I)<|aO I I (fun hg=>am y0 I I (aA I hg)) ?_
  obtain⟨r,h1t,h0t⟩:=og q_t
  have q_rg:=fun hb=>(h1t hb).1
  refine aO I I (fun hg=>aG Vz (Q7 _ (q_rg hg)) ⟨(aA I hg),aZ⟩)<|zo I (bN (ht I) (fun hb=>(aA I hb)) (fun hb=>(h1t hb).2) h0t)<|aS I<|ai<|ah ?_;refine au (J ?_);cases so h;exact aw I I
 ·refine dj (Z:=fun x=>mq m x=some R) (Of:=fun x=>[]) (Gf:=fun x=>[(1,ce dN m),(3,(kG ba E7 o0 (fun(x:Int)=>(ib m) x))),(6,cb m.Kind),(22,fx x)]) (fun x h=>?_) (fun K=>?_)
  ·skip
   refine bR h I (fun h=>?_) (fun h=>?_)
   ·refine aj<|zo I (dd)<|ai<|ah ?_;refine au (J ?_);cases so h;exact aw I I
   ·refine aj<|zo I (d6 I)<|aS I<|ai<|bR h I (fun h=>?_) (fun h=>?_)
    ·refine aj<|av I<|bA h fun r1 q_r1 h=>zo I (kM (args:=KZ) (res:=xS) (f:=(fun(x:Int)=>(ib m) x)) (x:=(((1:Int)):Int)) (ht I) q_r1 ⟨hI,aZ⟩)<|aS I<|ai<|ah ?_;refine au (J ?_);cases so h;exact aw I I
    ·refine aj<|zo I (d6 I)<|aS I<|ai<|bR h I (fun h=>?_) (fun h=>?_)
     ·refine aj<|av I<|bA h fun r2 q_r2 h=>zo I (kM (args:=KZ) (res:=xS) (f:=(fun(x:Int)=>(ib m) x)) (x:=(((2:Int)):Int)) (ht I) q_r2 ⟨hI,aZ⟩)<|aS I<|ai<|ah ?_;refine au (J ?_);cases so h;exact aw I I
     ·refine aj<|zo I (d6 I)<|aS I<|ai<|bR h I (fun h=>?_) (fun h=>?_)
      ·refine aj<|zo I (aU qn nN I I)<|zo I (bf yZ I I)<|zo I (d6 I)<|av I<|bI I I (fun hg=>aU qn nN I I)<|bI I I (fun hg=>am yZ I I (aA I hg))<|bI I I (fun hg=>bz (aA I hg) hI)<|zo I (kh I I)<|aS I<|ai<|ah ?_;refine au (J ?_);cases so h;exact aw I I
      ·refine aP<|ac<|af<|aj<|zo rfl (dd)<|ai<|ah ?_;cases so h;exact aw I I
  ·skip
   refine aj<|zo I (d6 I)<|aS I<|ai<|bR h I (fun h=>?_) (fun h=>?_)
   ·refine aP ?_;exact bD (K (m.Kind==(2:Int)) h) (aR I)
   ·refine aj<|zo I (d6 I)<|aS I<|ai<|bR h I (fun h=>?_) (fun h=>?_)
    ·refine aP ?_;exact bD (K (m.Kind==(6:Int)) h) (aR I)
    ·refine ae<|zo I (d6 I)<|aS I<|ay ?_;exact bD (K (m.Kind==(7:Int)) h) (aR I)

end Go.Proofs.YtdohlidddcgfjaaGreat

