/- cT of this claim: P1. -/
import Derived.Test.YtdohlidddcgfjaaGreatFaT
import Derived.Test.YtdohlidddcgfjaaGreatFaP0
set_option linter.all false
namespace Go.Proofs.YtdohlidddcgfjaaGreat
open Go
set_option maxRecDepth 100000

theorem QT(s1:(List bv))(s2:(List bv))(eq:(bv→bv→Option Bool)){R:Bool}(h:cW s1 s2 eq=some R):bk ba 71 [dM (bL) s1,dM (bL) s2,(kG ba PY o0 (fun(x:bv×bv)=>eq x.1 x.2))] (fx R):=by
 refine bk.of Tryz.func71 I I I fun w0 S0=>aj<|zo I (dd)<|ai<|aa<|aj<|av I<|zo I (d5 pr I)<|av I<|zo I (d5 pr I)<|zo I (bM (ht I) (ht I))<|ai<|bR h I (fun h=>?_) (fun h=>?_)
 ·refine aj<|zo I (dd)<|ai<|ah<|J ?_;cases so h;exact aw I I
 ·refine dk<|aa<|aj<|av I<|zo I (d5 pr I)<|zo I (bm hI)<|ai<|ak<|aT (k:=15) I fun hN=>bn ?_;refine aD (dv (Z:=fun ls i=>(s1.drop i=ls)∧cO s2 eq ls i=some R) (Of:=fun _ i=>[]) (Gf:=fun _ i=>[(1,dM (bL) s2),(2,(kG ba PY o0 (fun(x:bv×bv)=>eq x.1 x.2))),(15,dM (bL) s1),(16,iB s1),(17,cb (i:Int))]) (fun i h=>?_) (fun e tl ih i h=>?_) s1 0 ⟨I,h⟩) (aR I)
  ·obtain⟨hx,h⟩:=h
   refine aq<|aj<|zo I (ek I I)<|ai<|aa<|bu (ht I) (de hx)<|bc ?_;refine M (M (aC ?_));refine af<|aj<|zo rfl (dd)<|ai<|ah ?_;cases so h;exact aw I I
  ·obtain⟨hx,h⟩:=h
   refine aq<|aj<|zo I (ek I I)<|ai<|aa<|bt (ht I) (cX hx)<|dk<|aa<|ak<|aj<|av I<|zo I (gI pr fv I I I (cS hx))<|zo I (bf fv I I)<|bJ (r:=bL) (x:=u0) fv (fun _=>qx _) I fun b=>aS I<|aQ fv I aY I (ht I) (ht I)<|bE 8 I<|ai<|aa ?_;refine ae<|av I<|av I<|bA h fun e1 q_e1 h=>zo I (gI pr fv I I I q_e1)<|zo I (bf fv I I)<|bJ (r:=bL) (x:=u0) fv (fun _=>qx _) I fun b1=>aQ fv I aY I (ht I) (ht I)<|bE 9 I<|ai<|aj<|av I<|zo I (bf fv I I)<|zo I (bf fv I I)<|bA h fun r q_r h=>zo I (kM (args:=PY) (res:=xS) (f:=(fun(x:bv×bv)=>eq x.1 x.2)) (x:=((e,e1):bv×bv)) (ht I) q_r ⟨(ht I),(ht I),aZ⟩)<|zo I (dP (ht I))<|ai<|bR h I (fun h=>?_) (fun h=>?_)
   ·refine aj<|zo I (dd)<|ai<|ah ?_;refine au (J (J (au (J ?_))));cases so h;exact aw I I
   ·refine aP<|ac<|af<|ae<|zo rfl (jL (cy hx hN) rfl)<|av rfl<|ay ?_;exact aM (aD (ih (i+1) ⟨cx hx,h⟩) (aR I))

theorem QX(p:ap)(y:ap){R:Bool}(h:nE p y=some R):bk ba 65 [tD aJ p,tD aJ y] (fx R):=by
 refine bk.of Tryz.func65 I I I fun w0 S0=>aj<|zo I (kp I)<|zo I (kp I)<|zo I (dd)<|ai<|aj<|zo I (aU eJ cg I I)<|zo I (bf bp I I)<|zo I (aU eJ cg I I)<|zo I (bf bp I I)<|zo I (bz (ht I) (ht I))<|av I<|aO I I (fun hg=>aU lh eW I I)<|aO I I (fun hg=>am bp I I (aA I hg))<|aO I I (fun hg=>aU lh eW I I)<|aO I I (fun hg=>am bp I I (aA I hg))<|aO I I (fun hg=>bz (aA I hg) (aA I hg))<|zo I (fV I I)<|av I<|aO I I (fun hg=>aU m3 f7 I I) ?_;refine aO I I (fun hg=>am bp I I (aA I hg))<|aO I I (fun hg=>aU m3 f7 I I)<|aO I I (fun hg=>am bp I I (aA I hg))<|aO I I (fun hg=>bz (aA I hg) (aA I hg))<|zo I (fV I I)<|av I<|aO I I (fun hg=>aU oA gr I I)<|aO I I (fun hg=>am bp I I (aA I hg))<|aO I I (fun hg=>aU oA gr I I)<|aO I I (fun hg=>am bp I I (aA I hg))<|aO I I (fun hg=>bz (aA I hg) (aA I hg))<|zo I (fV I I)<|av I<|aO I I (fun hg=>aU vW nQ I I)<|aO I I (fun hg=>am As I I (aA I hg))<|aO I I (fun hg=>aU vW nQ I I)<|aO I I (fun hg=>am As I I (aA I hg))<|aO I I (fun hg=>Az DF (aA I hg) (aA I hg))<|zo I (fV I I)<|av I<|aO I I (fun hg=>aU oS iu I I)<|aO I I (fun hg=>am bp I I (aA I hg))<|aO I I (fun hg=>aU oS iu I I)<|aO I I (fun hg=>am bp I I (aA I hg)) ?_;refine aO I I (fun hg=>bz (aA I hg) (aA I hg))<|zo I (fV I I)<|aS I<|ai<|aj<|av I<|av I<|bA h fun t q_t h=>aO I I (fun hg=>aU iH dz I I)<|aO I I (fun hg=>am bV I I (aA I hg))<|aO I I (fun hg=>aU iH dz I I)<|aO I I (fun hg=>am bV I I (aA I hg)) ?_
 obtain⟨r,h1t,h0t⟩:=og q_t
 have q_rg:=fun hb=>(h1t hb).1
 refine aO I I (fun hg=>aG RP (HY _ _ (q_rg hg)) ⟨(aA I hg),(aA I hg),aZ⟩)<|zo I (bN (ht I) (fun hb=>(aA I hb)) (fun hb=>(h1t hb).2) h0t)<|av I<|bA h fun t1 q_t1 h=>aO I I (fun hg=>aU iw dl I I)<|aO I I (fun hg=>am bV I I (aA I hg))<|aO I I (fun hg=>aU iw dl I I)<|aO I I (fun hg=>am bV I I (aA I hg)) ?_
 obtain⟨r1,h1t1,h0t1⟩:=og q_t1
 have q_r1g:=fun hb=>(h1t1 hb).1
 refine aO I I (fun hg=>aG RP (HY _ _ (q_r1g hg)) ⟨(aA I hg),(aA I hg),aZ⟩)<|zo I (bN (ht I) (fun hb=>(aA I hb)) (fun hb=>(h1t1 hb).2) h0t1)<|av I<|bA h fun t2 q_t2 h=>aO I I (fun hg=>aU iA dR I I)<|aO I I (fun hg=>am sv I I (aA I hg))<|aO I I (fun hg=>aU iA dR I I)<|aO I I (fun hg=>am sv I I (aA I hg)) ?_
 obtain⟨r2,h1t2,h0t2⟩:=og q_t2
 have q_r2g:=fun hb=>(h1t2 hb).1
 refine aO I I (fun hg=>aG Vm (QW _ _ (q_r2g hg)) ⟨(aA I hg),(aA I hg),aZ⟩)<|zo I (bN (ht I) (fun hb=>(aA I hb)) (fun hb=>(h1t2 hb).2) h0t2)<|aS I<|ai<|aj<|zo I (aN (show aK _ _ _ ((kG ba MZ o0 (fun(x:fy×fy)=>oG x.1 x.2)))from(L6 Vl fun x y h=>QV _ _ h)))<|ai<|aj<|av I<|av I<|bA h fun t3 q_t3 h=>aO I I (fun hg=>aU o8 gN I I)<|aO I I (fun hg=>am fv I I (aA I hg))<|aO I I (fun hg=>aU o8 gN I I)<|aO I I (fun hg=>am fv I I (aA I hg)) ?_
 obtain⟨r3,h1t3,h0t3⟩:=og q_t3
 have q_r3g:=fun hb=>(h1t3 hb).1
 refine aO I I (fun hg=>aG RO (HX _ _ (q_r3g hg)) ⟨(aA I hg),(aA I hg),aZ⟩)<|zo I (bN (ht I) (fun hb=>(aA I hb)) (fun hb=>(h1t3 hb).2) h0t3)<|av I<|bA h fun t4 q_t4 h=>aO I I (fun hg=>aU fM cz I I)<|aO I I (fun hg=>am nd I I (aA I hg))<|aO I I (fun hg=>aU fM cz I I)<|aO I I (fun hg=>am nd I I (aA I hg))<|aO I I (fun hg=>cw I) ?_
 obtain⟨r4,h1t4,h0t4⟩:=og q_t4
 have q_r4g:=fun hb=>(h1t4 hb).1
 refine aO I I (fun hg=>aG Vk (QU _ _ _ (q_r4g hg)) ⟨(aA I hg),(aA I hg),(aA I hg),aZ⟩)<|zo I (bN (ht I) (fun hb=>(aA I hb)) (fun hb=>(h1t4 hb).2) h0t4)<|av I<|bA h fun t5 q_t5 h=>aO I I (fun hg=>aU m2 gq I I)<|aO I I (fun hg=>am u4 I I (aA I hg))<|aO I I (fun hg=>aU m2 gq I I)<|aO I I (fun hg=>am u4 I I (aA I hg)) ?_
 obtain⟨r5,h1t5,h0t5⟩:=og q_t5
 have q_r5g:=fun hb=>(h1t5 hb).1
 refine aO I I (fun hg=>aG Vj (QT _ _ _ (q_r5g hg)) ⟨(aA I hg),(aA I hg),(L6 RO fun x y h=>HX _ _ h),aZ⟩)<|zo I (bN (ht I) (fun hb=>(aA I hb)) (fun hb=>(h1t5 hb).2) h0t5)<|aS I<|ai<|ah ?_;cases so h;exact aw I I

theorem QS(s1:(List ez))(s2:(List ez))(eq:(ez→ez→Option Bool)){R:Bool}(h:cV s1 s2 eq=some R):bk ba 72 [dM (fa) s1,dM (fa) s2,(kG ba M1 o0 (fun(x:ez×ez)=>eq x.1 x.2))] (fx R):=by
 refine bk.of Tryz.func72 I I I fun w0 S0=>aj<|zo I (dd)<|ai<|aa<|aj<|av I<|zo I (d5 pS I)<|av I<|zo I (d5 pS I)<|zo I (bM (ht I) (ht I))<|ai<|bR h I (fun h=>?_) (fun h=>?_)
 ·refine aj<|zo I (dd)<|ai<|ah<|J ?_;cases so h;exact aw I I
 ·refine dk<|aa<|aj<|av I<|zo I (d5 pS I)<|zo I (bm hI)<|ai<|ak<|aT (k:=15) I fun hN=>bn ?_;refine aD (dv (Z:=fun ls i=>(s1.drop i=ls)∧cN s2 eq ls i=some R) (Of:=fun _ i=>[]) (Gf:=fun _ i=>[(1,dM (fa) s2),(2,(kG ba M1 o0 (fun(x:ez×ez)=>eq x.1 x.2))),(15,dM (fa) s1),(16,iB s1),(17,cb (i:Int))]) (fun i h=>?_) (fun e tl ih i h=>?_) s1 0 ⟨I,h⟩) (aR I)
  ·obtain⟨hx,h⟩:=h
   refine aq<|aj<|zo I (ek I I)<|ai<|aa<|bu (ht I) (de hx)<|bc ?_;refine M (M (aC ?_));refine af<|aj<|zo rfl (dd)<|ai<|ah ?_;cases so h;exact aw I I
  ·obtain⟨hx,h⟩:=h
   refine aq<|aj<|zo I (ek I I)<|ai<|aa<|bt (ht I) (cX hx)<|dk<|aa<|ak<|aj<|av I<|zo I (gI pS ml I I I (cS hx))<|zo I (bf ml I I)<|bJ (r:=fa) (x:=DL) ml (fun _=>rn _) I fun b=>aS I<|aQ ml I aY I (ht I) (ht I)<|bE 8 I<|ai<|aa ?_;refine ae<|av I<|av I<|bA h fun e1 q_e1 h=>zo I (gI pS ml I I I q_e1)<|zo I (bf ml I I)<|bJ (r:=fa) (x:=DL) ml (fun _=>rn _) I fun b1=>aQ ml I aY I (ht I) (ht I)<|bE 9 I<|ai<|aj<|av I<|zo I (bf ml I I)<|zo I (bf ml I I)<|bA h fun r q_r h=>zo I (kM (args:=M1) (res:=xS) (f:=(fun(x:ez×ez)=>eq x.1 x.2)) (x:=((e,e1):ez×ez)) (ht I) q_r ⟨(ht I),(ht I),aZ⟩)<|zo I (dP (ht I))<|ai<|bR h I (fun h=>?_) (fun h=>?_)
   ·refine aj<|zo I (dd)<|ai<|ah ?_;refine au (J (J (au (J ?_))));cases so h;exact aw I I
   ·refine aP<|ac<|af<|ae<|zo rfl (jL (cy hx hN) rfl)<|av rfl<|ay ?_;exact aM (aD (ih (i+1) ⟨cx hx,h⟩) (aR I))

theorem QQ(s1:(List ap))(s2:(List ap))(eq:(ap→ap→Option Bool)){R:Bool}(h:cJ s1 s2 eq=some R):bk ba 74 [dM (aJ) s1,dM (aJ) s2,(kG ba K8 o0 (fun(x:ap×ap)=>eq x.1 x.2))] (fx R):=by
 refine bk.of Tryz.func74 I I I fun w0 S0=>aj<|zo I (dd)<|ai<|aa<|aj<|av I<|zo I (d5 ji I)<|av I<|zo I (d5 ji I)<|zo I (bM (ht I) (ht I))<|ai<|bR h I (fun h=>?_) (fun h=>?_)
 ·refine aj<|zo I (dd)<|ai<|ah<|J ?_;cases so h;exact aw I I
 ·refine dk<|aa<|aj<|av I<|zo I (d5 ji I)<|zo I (bm hI)<|ai<|ak<|aT (k:=15) I fun hN=>bn ?_;refine aD (dv (Z:=fun ls i=>(s1.drop i=ls)∧cG s2 eq ls i=some R) (Of:=fun _ i=>[]) (Gf:=fun _ i=>[(1,dM (aJ) s2),(2,(kG ba K8 o0 (fun(x:ap×ap)=>eq x.1 x.2))),(15,dM (aJ) s1),(16,iB s1),(17,cb (i:Int))]) (fun i h=>?_) (fun e tl ih i h=>?_) s1 0 ⟨I,h⟩) (aR I)
  ·obtain⟨hx,h⟩:=h
   refine aq<|aj<|zo I (ek I I)<|ai<|aa<|bu (ht I) (de hx)<|bc ?_;refine M (M (aC ?_));refine af<|aj<|zo rfl (dd)<|ai<|ah ?_;cases so h;exact aw I I
  ·obtain⟨hx,h⟩:=h
   refine aq<|aj<|zo I (ek I I)<|ai<|aa<|bt (ht I) (cX hx)<|dk<|aa<|ak<|aj<|av I<|zo I (gI ji ej I I I (cS hx))<|zo I (bf ej I I)<|bJ (r:=aJ) (x:=DK) ej (fun _=>iX _) I fun b=>aS I<|aQ ej I aY I (ht I) (ht I)<|bE 8 I<|ai<|aa ?_;refine ae<|av I<|av I<|bA h fun e1 q_e1 h=>zo I (gI ji ej I I I q_e1)<|zo I (bf ej I I)<|bJ (r:=aJ) (x:=DK) ej (fun _=>iX _) I fun b1=>aQ ej I aY I (ht I) (ht I)<|bE 9 I<|ai<|aj<|av I<|zo I (bf ej I I)<|zo I (bf ej I I)<|bA h fun r q_r h=>zo I (kM (args:=K8) (res:=xS) (f:=(fun(x:ap×ap)=>eq x.1 x.2)) (x:=((e,e1):ap×ap)) (ht I) q_r ⟨(ht I),(ht I),aZ⟩)<|zo I (dP (ht I))<|ai<|bR h I (fun h=>?_) (fun h=>?_)
   ·refine aj<|zo I (dd)<|ai<|ah ?_;refine au (J (J (au (J ?_))));cases so h;exact aw I I
   ·refine aP<|ac<|af<|ae<|zo rfl (jL (cy hx hN) rfl)<|av rfl<|ay ?_;exact aM (aD (ih (i+1) ⟨cx hx,h⟩) (aR I))

theorem QR(node:(ap→ap→Option Bool))(p:ez)(y:ez){R:Bool}(h:qU node p y=some R):bk ba 73 [tD fa p,tD fa y,ce (rT ((kG ba K8 o0 (fun(x:ap×ap)=>node x.1 x.2)))) ()] (fx R):=by
 refine bk.of Tryz.func73 I I I fun w0 S0=>aj<|zo I (kp I)<|zo I (kp I)<|zo I (dd)<|ai<|aj<|zo I (aU tm mU I I)<|zo I (bf bp I I)<|zo I (aU tm mU I I)<|zo I (bf bp I I)<|zo I (bz (ht I) (ht I))<|av I<|aO I I (fun hg=>aU tk mT I I)<|aO I I (fun hg=>am bp I I (aA I hg))<|aO I I (fun hg=>aU tk mT I I)<|aO I I (fun hg=>am bp I I (aA I hg))<|aO I I (fun hg=>bz (aA I hg) (aA I hg))<|zo I (fV I I)<|av I<|bA h fun t q_t h=>?_;refine aO I I (fun hg=>aU qm jV I I)<|aO I I (fun hg=>am bV I I (aA I hg))<|aO I I (fun hg=>aU qm jV I I)<|aO I I (fun hg=>am bV I I (aA I hg)) ?_
 obtain⟨r,h1t,h0t⟩:=og q_t
 have q_rg:=fun hb=>(h1t hb).1
 refine aO I I (fun hg=>aG RP (HY _ _ (q_rg hg)) ⟨(aA I hg),(aA I hg),aZ⟩)<|zo I (bN (ht I) (fun hb=>(aA I hb)) (fun hb=>(h1t hb).2) h0t)<|av I<|bA h fun t1 q_t1 h=>aO I I (fun hg=>aU re kC I I)<|aO I I (fun hg=>am ox I I (aA I hg))<|aO I I (fun hg=>aU re kC I I)<|aO I I (fun hg=>am ox I I (aA I hg))<|aO I I (fun hg=>F1 Ln (ht I)) ?_
 obtain⟨r1,h1t1,h0t1⟩:=og q_t1
 have q_r1g:=fun hb=>(h1t1 hb).1
 refine aO I I (fun hg=>aG Vg (QQ _ _ _ (q_r1g hg)) ⟨(aA I hg),(aA I hg),(aA I hg),aZ⟩)<|zo I (bN (ht I) (fun hb=>(aA I hb)) (fun hb=>(h1t1 hb).2) h0t1)<|aS I<|ai<|ah ?_;cases so h;exact aw I I

theorem Rc(a1:dn)(b:dn){R:Bool}(h:wr a1 b=some R):bk ba 32 [tD iy a1,tD iy b] (fx R):=by
 refine bk.of Tryz.func32 I I I fun w0 S0=>aj<|zo I (kp I)<|zo I (kp I)<|zo I (dd)<|ai<|aj<|bJ (r:=rV) (x:= .nilFunc) Ln (fun _=>⟨I,I⟩) I fun b1=>iV (jD (r' :=rT (K7)) (x' :=()) (q:=rT (K7)) (y:=()) Ln I (p8 I) I (ht I) (hTT Nt (show aK _ _ _ (K7)from(L6 Vn fun x y h=>QX _ _ h)))) fun _=>?_;refine(show RG _ _ _ _ (bx (rT (K7)) 120 b1 ()::_) _ from ?_);refine bE 5 I<|ai<|aj<|zo I (aU lE fQ I I)<|zo I (bf tA I I)<|zo I (aU lE fQ I I)<|zo I (bf tA I I)<|zo I ((show cE _ _ _ _ ((kG ba M1 o0 (fun(x:ez×ez)=>(qU nE) x.1 x.2)))from vL (cts:=[ce (rT (K7)) ()]) (caps:=[.tmp 5]) Vh ⟨(ht I),aZ⟩ (fun x y h=>QR _ _ _ h)))<|bA h fun r q_r h=>zo I (aG Vi (QS _ _ _ q_r) ⟨(ht I),(ht I),(ht I),aZ⟩)<|aS I<|ai<|ah ?_;cases so h;exact aw I I

theorem zm(a1:cu)(b:cu){R:Bool}(h:ld a1 b=some R):bk ba 14 [tD dN a1,tD dN b] (fx R):=by
 refine bk.of Tryz.func14 I I I fun w0 S0=>aj<|zo I (kp I)<|zo I (kp I)<|zo I (dd)<|ai<|aj<|zo I (aU pK lD I I)<|zo I (bf bp I I)<|zo I (aU sj oK I I)<|zo I (bf bp I I)<|zo I (aU si oJ I I)<|zo I (bf bp I I)<|zo I (aU rg nP I I)<|zo I (bf bp I I)<|zo I (aU pJ mu I I)<|zo I (bf bp I I)<|zo I (aU qo nO I I)<|zo I (bf bp I I)<|zo I (rK (r:=cq) (ys:=[a1.Kind,a1.From,a1.To,a1.Epoch,a1.Frag,a1.Sites]) (xs:=[.tmp 7,.tmp 9,.tmp 11,.tmp 13,.tmp 15,.tmp 17]) Tryz.underlying62 bp I Su I I ⟨(ht I),(ht I),(ht I),(ht I),(ht I),(ht I),aZ⟩)<|zo I (aU pK lD I I) ?_;refine zo I (bf bp I I)<|zo I (aU sj oK I I)<|zo I (bf bp I I)<|zo I (aU si oJ I I)<|zo I (bf bp I I)<|zo I (aU rg nP I I)<|zo I (bf bp I I)<|zo I (aU pJ mu I I)<|zo I (bf bp I I)<|zo I (aU qo nO I I)<|zo I (bf bp I I)<|zo I (rK (r:=cq) (ys:=[b.Kind,b.From,b.To,b.Epoch,b.Frag,b.Sites]) (xs:=[.tmp 20,.tmp 22,.tmp 24,.tmp 26,.tmp 28,.tmp 30]) Tryz.underlying62 bp I Su I I ⟨(ht I),(ht I),(ht I),(ht I),(ht I),(ht I),aZ⟩)<|zo I (wx UZ (ht I) (ht I))<|aS I<|ai<|aj<|av I<|av I<|aO I I (fun hg=>aU qn nN I I)<|aO I I (fun hg=>am yZ I I (aA I hg))<|aO I I (fun hg=>aU qn nN I I)<|aO I I (fun hg=>am yZ I I (aA I hg)) ?_;refine aO I I (fun hg=>bz (aA I hg) (aA I hg))<|zo I (fV I I)<|av I<|bA h fun t q_t h=>aO I I (fun hg=>aU pI mt I I)<|aO I I (fun hg=>am xV I I (aA I hg))<|aO I I (fun hg=>aU pI mt I I)<|aO I I (fun hg=>am xV I I (aA I hg)) ?_
 obtain⟨r,h1t,h0t⟩:=og q_t
 have q_rg:=fun hb=>(h1t hb).1
 refine aO I I (fun hg=>aG VG (Rd _ _ (q_rg hg)) ⟨(aA I hg),(aA I hg),aZ⟩)<|zo I (bN (ht I) (fun hb=>(aA I hb)) (fun hb=>(h1t hb).2) h0t)<|av I<|bA h fun t1 q_t1 h=>aO I I (fun hg=>aU rf oI I I)<|aO I I (fun hg=>am y0 I I (aA I hg))<|aO I I (fun hg=>aU rf oI I I)<|aO I I (fun hg=>am y0 I I (aA I hg)) ?_
 obtain⟨r1,h1t1,h0t1⟩:=og q_t1
 have q_r1g:=fun hb=>(h1t1 hb).1
 refine aO I I (fun hg=>aG VF (Rc _ _ (q_r1g hg)) ⟨(aA I hg),(aA I hg),aZ⟩)<|zo I (bN (ht I) (fun hb=>(aA I hb)) (fun hb=>(h1t1 hb).2) h0t1)<|aS I<|ai<|ah ?_;cases so h;exact aw I I

theorem Q0(m:cu){R:Bool}(h:sR m=some R):bk ba 57 [tD dN m] (fx R):=by
 refine bk.of Tryz.func57 I I I fun w0 S0=>aj<|zo I (kp I)<|zo I (dd)<|ai<|aj<|zo I (bf lk I I)<|bJ (r:=dN) (x:=Jw) lk (fun _=>vk _) I fun b=>aQ lk I aY I (ht I) (ht I)<|ai<|aj<|zo I (fe 0 pK I I I)<|aQ bp I A6 I (ht I) hI<|zo I (fe 1 sj I I I)<|aQ bp I A5 I (ht I) hI<|zo I (fe 2 si I I I)<|aQ bp I FB I (ht I) hI<|zo I (fe 3 rg I I I)<|aQ bp I A4 I (ht I) hI ?_;refine ai<|aa<|aj<|zo I (aU pK lD I I)<|zo I (bf bp I I)<|ai<|ak<|aj<|zo I (d6 I)<|aS I<|ai<|bR h I (fun h=>?_) (fun h=>?_)
 ·refine ae<|zo I (fX (y:=uZ) y0 UX Ir (I))<|zo I (fe 5 qo I I I)<|aQ bp I Fz I (ht I) hI<|zo I (fe 6 rf I I I)<|aQ y0 I Fy I (ht I) (ht I)<|ay<|ac<|af<|aj<|zo rfl (br (x:=(cu.mk (0:Int) (0:Int) (0:Int) (0:Int) m.Frag (0:Int) uZ m.Packet m.Err)) lk I I cA (.head _) (ht I))<|zo I (fX (y:=Jw) lk Kk vk (I))<|bA h fun r q_r h=>zo I (aG Kw (zm _ _ q_r) ⟨(ht I),(ht I),aZ⟩)<|aS I<|ai<|ah<|aX ?_;cases so h;exact aw I I
 ·refine dj (Z:=fun x=>pG m x=some R) (Of:=fun x=>[bx dN 34 b (cu.mk (0:Int) (0:Int) (0:Int) (0:Int) m.Frag m.Sites m.Plan m.Packet m.Err)]) (Gf:=fun x=>[(3,tV (aL b 0)),(10,cb m.Kind),(16,fx x)]) (fun x h=>?_) (fun K=>?_)
  ·skip
   refine bR h I (fun h=>?_) (fun h=>?_)
   ·refine ae<|zo I (fX (y:=uO) xV UV yW (I))<|zo I (fe 4 pJ I I I)<|aQ bp I FA I (ht I) hI<|zo I (fe 7 pI I I I)<|aQ xV I Fx I (ht I) (ht I)<|ay<|ac<|af<|aj<|zo rfl (br (x:=(cu.mk (0:Int) (0:Int) (0:Int) (0:Int) (0:Int) m.Sites m.Plan uO m.Err)) lk I I cA (.head _) (ht I))<|zo I (fX (y:=Jw) lk Kk vk (I))<|bA h fun r1 q_r1 h=>zo I (aG Kw (zm _ _ q_r1) ⟨(ht I),(ht I),aZ⟩)<|aS I<|ai<|ah<|aX ?_;cases so h;exact aw I I
   ·refine aj<|zo I (d6 I)<|aS I<|ai<|bR h I (fun h=>?_) (fun h=>?_)
    ·refine ae<|zo I (fe 14 qn I I I)<|aQ yZ I Fw I (ht I) hI<|ay<|ac<|af<|aj<|zo rfl (br (x:=(cu.mk (0:Int) (0:Int) (0:Int) (0:Int) m.Frag m.Sites m.Plan m.Packet (0:Int))) lk I I cA (.head _) (ht I))<|zo I (fX (y:=Jw) lk Kk vk (I))<|bA h fun r2 q_r2 h=>zo I (aG Kw (zm _ _ q_r2) ⟨(ht I),(ht I),aZ⟩)<|aS I<|ai<|ah<|aX ?_;cases so h;exact aw I I
    ·refine aP<|ac<|af<|aj<|zo rfl (br (x:=(cu.mk (0:Int) (0:Int) (0:Int) (0:Int) m.Frag m.Sites m.Plan m.Packet m.Err)) lk I I cA (.head _) (ht I))<|zo I (fX (y:=Jw) lk Kk vk (I))<|bA h fun r3 q_r3 h=>zo I (aG Kw (zm _ _ q_r3) ⟨(ht I),(ht I),aZ⟩)<|aS I<|ai<|ah<|aX ?_;cases so h;exact aw I I
  ·skip
   refine aj<|zo I (d6 I)<|aS I<|ai<|bR h I (fun h=>?_) (fun h=>?_)
   ·refine aP ?_;exact bD (K (m.Kind==(3:Int)) h) (aR I)
   ·refine ae<|zo I (d6 I)<|aS I<|ay ?_;exact bD (K (m.Kind==(4:Int)) h) (aR I)

theorem QL(c:Int){R:Bool}(h:pH c=some R):bk ba 81 [cb c] (fx R):=by
 refine bk.of Tryz.func81 I I I fun w0 S0=>aj<|zo I (dd)<|ai<|aj<|av I<|zo I (d8 (ht I) hI)<|av I<|bI I I (fun hg=>cw I)<|bI I I (fun hg=>dc (aA I hg) hI)<|zo I (kh I I)<|aS I<|ai<|ah ?_;cases so h;exact aw I I

theorem OP(s:(List Int))(f:(Int→Option Bool)){R:Int}(h:kX s f=some R):bk ba 129 [iK s,(kG ba E7 o0 (fun(x:Int)=>f x))] (cb R):=by
 refine bk.of Tryz.func129 I I I fun w0 S0=>aj<|zo I (dD)<|ai<|aa<|aj<|av I<|zo I (d5 cR I)<|zo I (bm hI)<|ai<|ak<|aT (k:=6) I fun hN=>bn ?_;refine aD (dv (Z:=fun ls i=>(s.drop i=ls)∧fH f ls i=some R) (Of:=fun _ i=>[]) (Gf:=fun _ i=>[(0,iK s),(1,(kG ba E7 o0 (fun(x:Int)=>f x))),(7,iB s),(8,cb (i:Int))]) (fun i h=>?_) (fun e tl ih i h=>?_) s 0 ⟨I,h⟩) (aR I)
 ·obtain⟨hx,h⟩:=h
  refine aq<|aj<|zo I (ek I I)<|ai<|aa<|bu (ht I) (de hx)<|bc ?_;refine M (M (aC ?_));refine af<|aj<|zo rfl (dD)<|ai<|ah ?_;cases so h;exact aw I I
 ·obtain⟨hx,h⟩:=h
  refine aq<|aj<|zo I (ek I I)<|ai<|aa<|bt (ht I) (cX hx)<|dk<|aa<|ak<|aj<|av I<|aS I<|ai<|aj<|av I<|av I<|av I<|zo I (gI cR bp I I I (cS hx)) ?_;refine zo I (bf bp I I)<|bA h fun r q_r h=>zo I (kM (args:=KZ) (res:=xS) (f:=(fun(x:Int)=>f x)) (x:=((e):Int)) (ht I) q_r ⟨(ht I),aZ⟩)<|ai<|bR h I (fun h=>?_) (fun h=>?_)
  ·refine aj<|av I<|aS I<|ai<|ah ?_;refine au (J (J (au (J ?_))));cases so h;exact aw I I
  ·refine aP<|ac<|af<|ae<|zo rfl (jL (cy hx hN) rfl)<|av rfl<|ay ?_;exact aM (aD (ih (i+1) ⟨cx hx,h⟩) (aR I))

theorem HV(s:(List Int))(f:(Int→Option Bool)){R:Bool}(h:eK s f=some R):bk ba 83 [iK s,(kG ba E7 o0 (fun(x:Int)=>f x))] (fx R):=by
 refine bk.of Tryz.func83 I I I fun w0 S0=>aj<|zo I (dd)<|ai<|aj<|av I<|av I<|bA h fun r q_r h=>zo I (aG Um (OP _ _ q_r) ⟨(ht I),(ht I),aZ⟩)<|zo I (dc (ht I) hI)<|aS I<|ai<|ah ?_;cases so h;exact aw I I

theorem Oq(k:Int){R:Bool}(h:od k=some R):bk ba 202 [cb k] (fx R):=by
 refine bk.of Tryz.func202 I I I fun w0 S0=>aj<|zo I (dd)<|ai<|aj<|av I<|zo I (d8 (ht I) hI)<|av I<|bI I I (fun hg=>cw I)<|bI I I (fun hg=>cH (aA I hg) hI)<|zo I (kh I I)<|aS I<|ai<|ah ?_;cases so h;exact aw I I

theorem Rz(b:Nat)(ix:OI)(l:al){R:Bool×al}(h:jb l=some R):dK ba 163 [tV (aL b 0)] (eD b l ix) (fun _:OI=>fx R.1) (fun j=>eD b R.2 j):=by
 refine dK.of Tryz.func163 I I I fun w0 S0=>?_;refine(show CG _ _ _ [bx (rH bo [(1,ax (ix.h 0).1 (ix.h 0).2 l.kinds.length),(2,ax (ix.h 1).1 (ix.h 1).2 l.open_.length)]) 168 b l,tip iW 69 (ix.h 0).1 (ix.h 0).2 l.kinds,df cq 3 (ix.h 1).1 (ix.h 1).2 l.open_] _ from ?_);refine aj<|zo I (dd)<|ai<|aj<|av I<|av I<|zo I (bg (ht I))<|zo I (fe 3 gH I I I)<|zo I (fe 7 iH I I I)<|zo I (br (r:=rH bo [(1,ax (ix.h 0).1 (ix.h 0).2 l.kinds.length),(2,ax (ix.h 1).1 (ix.h 1).2 l.open_.length)]) (x:=l) bV I I (gW (gD fD dz)) (.head _) (ht I))<|zo I (bg (ht I))<|zo I (fe 17 fK I I I)<|iV (jD bV I (vv (hs' :=[(1,ax (ix.h 0).1 (ix.h 0).2 l.kinds.length),(2,ax (ix.h 1).1 (ix.h 1).2 l.open_.length)]) rJ ⟨.inr ⟨I,I⟩,.inr ⟨I,I⟩,aZ⟩ I) I (ht I) (ht I)) fun i=>?_;refine(show RG _ _ _ _ [bx (rH bo [(1,ax (ix.h 0).1 (ix.h 0).2 l.kinds.length),(2,ax (ix.h 1).1 (ix.h 1).2 l.open_.length)]) 168 b ({l with result:=l.n.Kinds}:al),tip iW 69 (ix.h 0).1 (ix.h 0).2 l.kinds,df cq 3 (ix.h 1).1 (ix.h 1).2 l.open_] _ from ?_);refine ai<|aj<|av I<|zo I (bg (ht I))<|zo I (fe 3 gH I I I)<|zo I (fe 7 iH I I I)<|zo I (br (r:=rH bo [(1,ax (ix.h 0).1 (ix.h 0).2 l.kinds.length),(2,ax (ix.h 1).1 (ix.h 1).2 l.open_.length)]) (x:=({l with result:=l.n.Kinds}:al)) bV I I (gW (gD fD dz)) (.head _) (ht I))<|bA h fun r q_r h=>zo I (aG RM (HV _ _ q_r) ⟨(ht I),(L6 TL fun x y h=>Oq _ h),aZ⟩)<|zo I (dP (ht I))<|aS I<|ai<|aj<|av I<|av I<|aO I I (fun hg=>cw I)<|aO I I (fun hg=>bg (aA I hg))<|aO I I (fun hg=>bU (n:=3) gH I (aA I hg) I)<|aO I I (fun hg=>bU (n:=6) oA I (aA I hg) I)<|aO I I (fun hg=>br (r:=rH bo [(1,ax (ix.h 0).1 (ix.h 0).2 l.kinds.length),(2,ax (ix.h 1).1 (ix.h 1).2 l.open_.length)]) (x:=({l with result:=l.n.Kinds}:al)) bp I I (gW (gD fD gr)) (.head _) (aA I hg)) ?_;refine aO I I (fun hg=>dc (aA I hg) hI)<|zo I (fV I I)<|av I<|aO I I (fun hg=>cw I)<|aO I I (fun hg=>bg (aA I hg))<|aO I I (fun hg=>bU (n:=3) gH I (aA I hg) I)<|aO I I (fun hg=>bU (n:=6) oA I (aA I hg) I)<|aO I I (fun hg=>br (r:=rH bo [(1,ax (ix.h 0).1 (ix.h 0).2 l.kinds.length),(2,ax (ix.h 1).1 (ix.h 1).2 l.open_.length)]) (x:=({l with result:=l.n.Kinds}:al)) bp I I (gW (gD fD gr)) (.head _) (aA I hg))<|aO I I (fun hg=>d8 (aA I hg) hI)<|zo I (fV I I)<|av I<|aO I I (fun hg=>cw I)<|aO I I (fun hg=>bg (aA I hg))<|aO I I (fun hg=>bU (n:=3) gH I (aA I hg) I)<|aO I I (fun hg=>bU (n:=7) iH I (aA I hg) I)<|aO I I (fun hg=>br (r:=rH bo [(1,ax (ix.h 0).1 (ix.h 0).2 l.kinds.length),(2,ax (ix.h 1).1 (ix.h 1).2 l.open_.length)]) (x:=({l with result:=l.n.Kinds}:al)) bV I I (gW (gD fD dz)) (.head _) (aA I hg))<|aO I I (fun hg=>bw cR (aA I hg))<|aO I I (fun hg=>cH (aA I hg) hI)<|zo I (fV I I)<|av I<|aO I I (fun hg=>cw I)<|aO I I (fun hg=>bg (aA I hg))<|aO I I (fun hg=>bU (n:=3) gH I (aA I hg) I)<|aO I I (fun hg=>bU (n:=7) iH I (aA I hg) I) ?_;refine aO I I (fun hg=>br (r:=rH bo [(1,ax (ix.h 0).1 (ix.h 0).2 l.kinds.length),(2,ax (ix.h 1).1 (ix.h 1).2 l.open_.length)]) (x:=({l with result:=l.n.Kinds}:al)) bV I I (gW (gD fD dz)) (.head _) (aA I hg))<|aO I I (fun hg=>bw cR (aA I hg))<|aO I I (fun hg=>dV (aA I hg) hI)<|zo I (fV I I)<|aS I<|ai<|ah<|bl<|bl<|bl ?_;cases so h;exact ee I ix I I (fun _ _ h=>h)

theorem Oo(k:Int){R:Bool}(h:m6 k=some R):bk ba 203 [cb k] (fx R):=by
 refine bk.of Tryz.func203 I I I fun w0 S0=>aj<|zo I (dd)<|ai<|aj<|av I<|zo I (d8 (ht I) hI)<|av I<|bI I I (fun hg=>cw I)<|bI I I (fun hg=>cH (aA I hg) hI)<|zo I (kh I I)<|aS I<|ai<|ah ?_;cases so h;exact aw I I

theorem Ry(b:Nat)(ix:OI)(l:al){R:Bool×al}(h:iq l=some R):dK ba 164 [tV (aL b 0)] (eD b l ix) (fun _:OI=>fx R.1) (fun j=>eD b R.2 j):=by
 refine dK.of Tryz.func164 I I I fun w0 S0=>?_;refine(show CG _ _ _ [bx (rH bo [(1,ax (ix.h 0).1 (ix.h 0).2 l.kinds.length),(2,ax (ix.h 1).1 (ix.h 1).2 l.open_.length)]) 168 b l,tip iW 69 (ix.h 0).1 (ix.h 0).2 l.kinds,df cq 3 (ix.h 1).1 (ix.h 1).2 l.open_] _ from ?_);refine aj<|zo I (dd)<|ai<|aj<|av I<|av I<|zo I (bg (ht I))<|zo I (fe 3 gH I I I)<|zo I (fe 7 iH I I I)<|zo I (br (r:=rH bo [(1,ax (ix.h 0).1 (ix.h 0).2 l.kinds.length),(2,ax (ix.h 1).1 (ix.h 1).2 l.open_.length)]) (x:=l) bV I I (gW (gD fD dz)) (.head _) (ht I))<|zo I (bg (ht I))<|zo I (fe 17 fK I I I)<|iV (jD bV I (vv (hs' :=[(1,ax (ix.h 0).1 (ix.h 0).2 l.kinds.length),(2,ax (ix.h 1).1 (ix.h 1).2 l.open_.length)]) rJ ⟨.inr ⟨I,I⟩,.inr ⟨I,I⟩,aZ⟩ I) I (ht I) (ht I)) fun i=>?_;refine(show RG _ _ _ _ [bx (rH bo [(1,ax (ix.h 0).1 (ix.h 0).2 l.kinds.length),(2,ax (ix.h 1).1 (ix.h 1).2 l.open_.length)]) 168 b ({l with result:=l.n.Kinds}:al),tip iW 69 (ix.h 0).1 (ix.h 0).2 l.kinds,df cq 3 (ix.h 1).1 (ix.h 1).2 l.open_] _ from ?_);refine ai<|aj<|av I<|zo I (bg (ht I))<|zo I (fe 3 gH I I I)<|zo I (fe 7 iH I I I)<|zo I (br (r:=rH bo [(1,ax (ix.h 0).1 (ix.h 0).2 l.kinds.length),(2,ax (ix.h 1).1 (ix.h 1).2 l.open_.length)]) (x:=({l with result:=l.n.Kinds}:al)) bV I I (gW (gD fD dz)) (.head _) (ht I))<|bA h fun r q_r h=>zo I (aG RM (HV _ _ q_r) ⟨(ht I),(L6 TK fun x y h=>Oo _ h),aZ⟩)<|zo I (dP (ht I))<|aS I<|ai<|aj<|av I<|av I<|aO I I (fun hg=>cw I)<|aO I I (fun hg=>bg (aA I hg))<|aO I I (fun hg=>bU (n:=3) gH I (aA I hg) I)<|aO I I (fun hg=>bU (n:=6) oA I (aA I hg) I)<|aO I I (fun hg=>br (r:=rH bo [(1,ax (ix.h 0).1 (ix.h 0).2 l.kinds.length),(2,ax (ix.h 1).1 (ix.h 1).2 l.open_.length)]) (x:=({l with result:=l.n.Kinds}:al)) bp I I (gW (gD fD gr)) (.head _) (aA I hg)) ?_;refine aO I I (fun hg=>dc (aA I hg) hI)<|zo I (fV I I)<|av I<|aO I I (fun hg=>cw I)<|aO I I (fun hg=>bg (aA I hg))<|aO I I (fun hg=>bU (n:=3) gH I (aA I hg) I)<|aO I I (fun hg=>bU (n:=6) oA I (aA I hg) I)<|aO I I (fun hg=>br (r:=rH bo [(1,ax (ix.h 0).1 (ix.h 0).2 l.kinds.length),(2,ax (ix.h 1).1 (ix.h 1).2 l.open_.length)]) (x:=({l with result:=l.n.Kinds}:al)) bp I I (gW (gD fD gr)) (.head _) (aA I hg))<|aO I I (fun hg=>d8 (aA I hg) hI)<|zo I (fV I I)<|av I<|aO I I (fun hg=>cw I)<|aO I I (fun hg=>bg (aA I hg))<|aO I I (fun hg=>bU (n:=3) gH I (aA I hg) I)<|aO I I (fun hg=>bU (n:=7) iH I (aA I hg) I)<|aO I I (fun hg=>br (r:=rH bo [(1,ax (ix.h 0).1 (ix.h 0).2 l.kinds.length),(2,ax (ix.h 1).1 (ix.h 1).2 l.open_.length)]) (x:=({l with result:=l.n.Kinds}:al)) bV I I (gW (gD fD dz)) (.head _) (aA I hg))<|aO I I (fun hg=>bw cR (aA I hg))<|aO I I (fun hg=>cH (aA I hg) hI)<|zo I (fV I I)<|av I<|aO I I (fun hg=>cw I)<|aO I I (fun hg=>bg (aA I hg))<|aO I I (fun hg=>bU (n:=3) gH I (aA I hg) I)<|aO I I (fun hg=>bU (n:=7) iH I (aA I hg) I) ?_;refine aO I I (fun hg=>br (r:=rH bo [(1,ax (ix.h 0).1 (ix.h 0).2 l.kinds.length),(2,ax (ix.h 1).1 (ix.h 1).2 l.open_.length)]) (x:=({l with result:=l.n.Kinds}:al)) bV I I (gW (gD fD dz)) (.head _) (aA I hg))<|aO I I (fun hg=>bw cR (aA I hg))<|aO I I (fun hg=>dV (aA I hg) hI)<|zo I (fV I I)<|aS I<|ai<|ah<|bl<|bl<|bl ?_;cases so h;exact ee I ix I I (fun _ _ h=>h)

end Go.Proofs.YtdohlidddcgfjaaGreat

