/- cX of this claim: P6. -/
import Derived.Test.YtfhhakidodmdfaaGreatDoorJhT
import Derived.Test.YtfhhakidodmdfaaGreatDoorJhP5
set_option linter.all false
namespace Go.Proofs.YtfhhakidodmdfaaGreatDoor
open Go
set_option maxRecDepth 100000

theorem IN(a1:Int)(b:Int){R:Int×Bool}(h:wo a1 b=some R):aN aJ 332 [bu a1,bu b] (tT [bu R.1,er R.2]):=by
 refine aN.of Tryz.func332 J J J fun w0 S0=>ap<|zo J (bO)<|zo J (ef)<|al<|ap<|aB J<|aB J<|zo J (eZ (ht J) (ht J))<|ba J<|al<|ap<|aB J<|aB J<|aB J<|zo J (vp (ht J) (ht J))<|aB J<|aB J<|zo J (vp (ht J) (ht J)) ?_;refine zo J (vt (ht J) (ht J))<|zo J (dU (ht J) hI)<|ba J<|ba J<|al<|ai ?_;cases so h;exact ca J J J

theorem ED(a1:M)(b:M){R:M×Int}(h:sA a1 b=some R):aN aJ 268 [tD ac a1,tD ac b] (tT [tD ac R.1,bu R.2]):=by
 refine aN.of Tryz.func268 J J J fun w0 S0=>ap<|zo J (ff J)<|zo J (ff J)<|aV (r:=ac) (x:=eS) aG (fun _=>aZ _) J fun b1=>zo J (bO)<|al<|ap<|zo J (bn aG J J)<|zo J (bn aG J J)<|bp h fun r q_r h=>zo J (ax EQ (wU _ _ _ q_r) ⟨(ht J),(ht J),(sr NV fun x y h=>IN _ _ h),aP⟩)<|zo J (eT J J)<|zo J (eT J J)<|av aG J am J (ht J) (ht J)<|aS 4 J<|ba J<|al<|ai ?_;cases so h;exact bF J J ⟨bq aG J J J,aW J,aP⟩

theorem Jg(a1:M){R:M×Int}(h:zM a1=some R):aN aJ 264 [tD ac a1] (tT [tD ac R.1,bu R.2]):=by
 refine aN.of Tryz.func264 J J J fun w0 S0=>ap<|zo J (ff J)<|aV (r:=ac) (x:=eS) aG (fun _=>aZ _) J fun b=>zo J (bO)<|al<|ae<|bp h fun r q_r h=>bp h fun r1 q_r1 h=>?_
 refine oH 5 (ts:=[tD ac r,tD ac a1,tT [tD ac r1.1,bu r1.2],tD ac r1.1,bu r1.2]) mixed J J J
  ⟨Fg J J (ax Cl (uJ _ q_r) ⟨hI,aP⟩),
  ⟨dp 1 J J J (bn aG J J),
  ⟨cO 4 0 5 1 J J J J (ax KS (ED _ _ q_r1) ⟨(ht J),(ht J),aP⟩),
  ⟨bH 6 2 J J J (eT J J),
  ⟨bH 6 2 J J J (eT J J),
  aP⟩⟩⟩⟩⟩ ?_
 refine av aG J am J (ht J) (ht J)<|aS 2 J<|ba J<|al<|ai ?_;cases so h;exact bF J J ⟨bq aG J J J,aW J,aP⟩

theorem Iy(v:M){R:Int}(h:vS v=some R):aN aJ 365 [tD ac v] (bu R):=by
 refine aN.of Tryz.func365 J J J fun w0 S0=>ap<|zo J (ff J)<|zo J (bO)<|al<|ae<|ap<|zo J (bS em bU J J)<|zo J (bn bP J J)<|zo J (io J)<|al<|bX h J (fun h=>?_) (fun h=>?_)
 ·refine ap<|zo J (bO)<|al<|ai<|aa ?_;cases so h;exact ay J J
 ·refine cF<|ap<|zo J (bS gK dg J J)<|zo J (bn wM J J)<|zo J (tv hI (ht J))<|ba J<|al<|ai ?_;cases so h;exact ay J J

theorem AS(to1:((List Int)→Option Int))(l:(List M)){R:M×Int}(h:oN to1 l=some R):aN aJ 327 [(cB aJ (fun(x:(List Int))=>[iA x]) sI (fun(x:(List Int))=>to1 x)),bK (ac) l] (tT [tD ac R.1,bu R.2]):=by
 refine aN.of Tryz.func327 J J J fun w0 S0=>ap<|aV (r:=ac) (x:=eS) aG (fun _=>aZ _) J fun b=>zo J (bO)<|al<|ae<|ap<|aB J<|bp h fun r q_r h=>zo J (ax KH (Eu _ q_r) ⟨(ht J),aP⟩)<|ba J<|al<|ap<|aB J<|zo J (pt J)<|al<|bX h J (fun h=>?_) (fun h=>?_)
 ·refine ap<|zo J (bM (y:=eS) aG lq aZ (J))<|aB J<|av aG J am J (ht J) (ht J)<|ba J<|al<|ai<|aa<|bg 4 J ?_;cases so h;exact bF J J ⟨bq aG J J J,aW J,aP⟩
 ·refine cF<|ap<|bA false bI 3<|zo J (aD mZ)<|al<|ae<|ap<|aB J<|zo J (eH ns J)<|zo J (br hI)<|al<|au<|aU (k:=16) J fun hN=>bo ?_;refine aI (oG (Z:=fun ls i n l1 c x=>(l.drop i=ls)∧nN to1 ls n x=some R) (Of:=fun _ i n l1 c x=>[dJ bI 3 l1 c n,bx ac 46 b x]) (Gf:=fun _ i n l1 c x=>[(0,(cB aJ (fun(x:(List Int))=>[iA x]) sI (fun(x:(List Int))=>to1 x))),(4,tV (aO b 0)),(7,mp l1 c n),(16,bK (ac) l),(17,fC l),(18,bu (i:Int))]) (fun i n l1 c x h=>?_) (fun e tl ih i n l1 c x h=>?_) l 0 nL none 0 eS ⟨J,h⟩) (bh J)
  ·obtain⟨hx,h⟩:=h
   refine aw<|ap<|zo J (dC J J)<|al<|ae<|bm (ht J) (cx hx)<|be ?_;refine af (af (aE ?_));refine ak<|ap<|aB rfl<|aB rfl<|eP<|dZ 7 rfl<|dZ 33 rfl<|bp h fun r1 q_r1 h=>zo J (dz (args:=(fun(x:(List Int))=>[tD rb x])) (res:=HV) (f:=(fun(x:(List Int))=>to1 x)) (x:=((n):(List Int))) (ht J) q_r1 ⟨(gz (ht J)),aP⟩)<|bp h fun e1 q_e1 h=>zo J (vO (r:=lF ac 3) (x:=Qg) gm2 gr2 (yU Tryz.underlying344 aG J GK (ht J) q_e1))<|zo J (bn aG J J)<|bz<|av aG J am J (ht J) (ht J)<|zo J (bO)<|al<|ai<|bg 4 J<|aY ?_;cases so h;exact bF J J ⟨bq aG J J J,aW J,aP⟩
  ·obtain⟨hx,h⟩:=h
   refine aw<|ap<|zo J (dC J J)<|al<|ae<|bl (ht J) (cw hx)<|cF<|ae<|au<|ap<|zo J (gw ns aG J J J (ci hx))<|zo J (bn aG J J)<|aV (r:=ac) (x:=eS) aG (fun _=>aZ _) J fun b1=>av aG J am J (ht J) (ht J)<|aS 9 J<|al<|ae<|ap ?_;refine zo J (bS em bU J J)<|zo J (bn bP J J)<|zo J (eb (ht J) hI)<|al<|bX h J (fun h=>?_) (fun h=>?_)
   ·refine ap<|zo J (bM (y:=eS) aG lq aZ (J))<|bz<|av aG J am J (ht J) (ht J)<|zo J (bO)<|al<|ai ?_;refine aa (aq (aa (aa (aq (aa ?_)))));refine bg 4 J<|aY ?_;cases so h;exact bF J J ⟨bq aG J J J,aW J,aP⟩
   ·refine cF<|an<|aB J<|zo J (bn aG J J)<|bp h fun r2 q_r2 h=>zo J (ax NC (Iy _ q_r2) ⟨(ht J),aP⟩)<|zo J (aR (r:=bI) (ys:=[r2]) (xs:=[.tmp 28]) ed bP J J J J J ⟨(ht J),aP⟩)<|bp h fun n1 q_n1 h=>cg bP J J J J ed J J (ht J) (ht J) q_n1 fun l2 c1=>ba J<|aL<|aj<|ak<|an<|zo rfl (iq (bW hx hN) rfl)<|aB rfl<|aL ?_;exact aT (aI (ih (i+1) n1 l2 c1 x ⟨bV hx,h⟩) (bh J))

theorem IR(l:(List Int)){R:Int}(h:vT l=some R):aN aJ 328 [iA l] (bu R):=by
 refine aN.of Tryz.func328 J J J fun w0 S0=>ap<|zo J (bO)<|al<|ap<|aB J<|bp h fun e q_e h=>zo J (bf ed bP J (ht J) hI q_e)<|zo J (bn bP J J)<|zo J (eZ hI (ht J))<|ba J<|al<|ai ?_;cases so h;exact ay J J

theorem EF(a1:M){R:M×Int}(h:vg a1=some R):aN aJ 265 [tD ac a1] (tT [tD ac R.1,bu R.2]):=by
 refine aN.of Tryz.func265 J J J fun w0 S0=>ap<|zo J (ff J)<|aV (r:=ac) (x:=eS) aG (fun _=>aZ _) J fun b=>zo J (bO)<|al<|ap<|zo J (bn aG J J)<|zo J (aR (r:=ac) (ys:=[a1]) (xs:=[.tmp 4]) ns aG J J J J J ⟨(ht J),aP⟩)<|bp h fun r q_r h=>zo J (ax Hp (AS _ _ q_r) ⟨(sr NY fun x y h=>IR _ h),(ht J),aP⟩)<|zo J (eT J J)<|zo J (eT J J)<|av aG J am J (ht J) (ht J)<|aS 2 J<|ba J<|al<|ai ?_;cases so h;exact bF J J ⟨bq aG J J J,aW J,aP⟩

theorem IQ(is1:Bool)(a1:M)(x:M){R:M×Int}(h:rP is1 a1 x=some R):aN aJ 329 [tD ac a1,tD ac x,bv rB is1] (tT [tD ac R.1,bu R.2]):=by
 refine aN.of Tryz.func329 J J J fun w0 S0=>ap<|zo J (ff J)<|zo J (ff J)<|aV (r:=ac) (x:=eS) aG (fun _=>aZ _) J fun b=>zo J (bO)<|al<|ap<|zo J (bS em bU J J)<|zo J (bn bP J J)<|zo J (io J)<|zo J (bn BC J J)<|zo J (Ic Le (ht J) (ht J))<|bp h fun r q_r h=>zo J (ax Hu (AY _ q_r) ⟨(ht J),aP⟩)<|av aG J am J (ht J) (ht J)<|aS 5 J<|zo J (bO)<|al<|ai ?_;cases so h;exact bF J J ⟨bq aG J J J,aW J,aP⟩

theorem EE(is1:Bool){R:(M→M→Option (M×Int))}(h:vx is1=some R):aN aJ 266 [er is1] ((cB aJ lC nK (fun(x:M×M)=>R x.1 x.2))):=by
 refine aN.of Tryz.func266 J J J fun w0 S0=>ap<|zo J (ff J)<|zo J (aD hV)<|al<|ap<|zo J ((show bB _ _ _ _ ((cB aJ lC nK (fun(x:M×M)=>(rP is1) x.1 x.2)))from eB (cts:=[bv rB is1]) (caps:=[.tmp 1]) NX ⟨(ht J),aP⟩ (fun x y h=>IQ _ _ _ h)))<|ba J<|al<|ai ?_;cases so h;exact ay J J

theorem IP(a1:Int)(b:Int){R:Int×Bool}(h:wr a1 b=some R):aN aJ 331 [bu a1,bu b] (tT [bu R.1,er R.2]):=by
 refine aN.of Tryz.func331 J J J fun w0 S0=>ap<|zo J (bO)<|zo J (ef)<|al<|ap<|aB J<|aB J<|zo J (fF (ht J) (ht J))<|ba J<|al<|ap<|aB J<|aB J<|aB J<|zo J (vp (ht J) (ht J))<|aB J<|aB J<|zo J (vp (ht J) (ht J)) ?_;refine zo J (vt (ht J) (ht J))<|zo J (dU (ht J) hI)<|ba J<|ba J<|al<|ai ?_;cases so h;exact ca J J J

theorem Jf(a1:M)(b:M){R:M×Int}(h:vJ a1 b=some R):aN aJ 267 [tD ac a1,tD ac b] (tT [tD ac R.1,bu R.2]):=by
 refine aN.of Tryz.func267 J J J fun w0 S0=>ap<|zo J (ff J)<|zo J (ff J)<|aV (r:=ac) (x:=eS) aG (fun _=>aZ _) J fun b1=>zo J (bO)<|al<|ap<|zo J (bn aG J J)<|zo J (bn aG J J)<|bp h fun r q_r h=>zo J (ax EQ (wU _ _ _ q_r) ⟨(ht J),(ht J),(sr NW fun x y h=>IP _ _ h),aP⟩)<|zo J (eT J J)<|zo J (eT J J)<|av aG J am J (ht J) (ht J)<|aS 4 J<|ba J<|al<|ai ?_;cases so h;exact bF J J ⟨bq aG J J J,aW J,aP⟩

theorem IL(p:Int)(y:Int){R:Int×Int}(h:qN p y=some R):aN aJ 334 [tD Ai p,tD Ai y] (tT [tD Ai R.1,tD Ai R.2]):=by
 refine aN.of Tryz.func334 J J J fun w0 S0=>ap<|zo J (bO)<|zo J (bO)<|al<|ap<|aB J<|zo J (vt (ht J) hI)<|ba J<|al<|ap<|aB J<|zo J (vq (ht J) hI (by decide))<|ba J<|al<|ap<|aB J ?_;refine zo J (vt (ht J) hI)<|ba J<|al<|ap<|aB J<|zo J (vq (ht J) hI (by decide))<|ba J<|al<|ap<|aB J<|aB J<|zo J (tv (ht J) (ht J))<|ba J<|al<|ap<|aB J<|aB J<|zo J (tv (ht J) (ht J)) ?_;refine aB J<|zo J (vq (ht J) hI (by decide))<|zo J (fF (ht J) (ht J))<|ba J<|al<|ap<|aB J<|zo J (vt (ht J) hI)<|ba J<|al<|ap<|aB J<|zo J (vq (ht J) hI (by decide))<|ba J<|al<|ap<|aB J<|aB J ?_;refine aB J<|zo J (tv (ht J) (ht J))<|zo J (fF (ht J) (ht J))<|ba J<|al<|ap<|aB J<|aB J<|zo J (tv (ht J) (ht J))<|aB J<|zo J (fF (ht J) (ht J))<|aB J<|zo J (vq (ht J) hI (by decide))<|zo J (fF (ht J) (ht J))<|ba J<|al<|ap<|aB J<|aB J<|zo J (tv (ht J) (ht J)) ?_;refine ba J<|al<|ai ?_;cases so h;exact ca J J J

theorem wT(n:Int){R:Int}(h:oy n=some R):aN aJ 335 [bu n] (tD Ai R):=by
 refine aN.of Tryz.func335 J J J fun w0 S0=>ap<|zo J (bO)<|al<|ae<|ap<|aB J<|zo J (dO (ht J) hI)<|al<|bX h J (fun h=>?_) (fun h=>?_)
 ·refine ap<|aB J<|zo J (mw tY ua (ht J))<|zo J (AC (ht J))<|ba J<|al<|ai<|aa ?_;cases so h;exact ay J J
 ·refine cF<|ap<|aB J<|zo J (mw tY ua (ht J))<|ba J<|al<|ai ?_;cases so h;exact ay J J

theorem Ev(u:Int)(below:Bool){R:Int×Bool}(h:qD u below=some R):aN aJ 336 [tD Ai u,er below] (tT [bu R.1,er R.2]):=by
 refine aN.of Tryz.func336 J J J fun w0 S0=>ap<|zo J (bO)<|zo J (ef)<|al<|ae<|ap<|aB J<|al<|bX h J (fun h=>?_) (fun h=>?_)
 ·refine ap<|aB J<|zo J (AC (ht J))<|zo J (mw ua tY (ht J))<|aB J<|zo J (gH (ht J) hI)<|ba J<|ba J<|al<|ai<|aa ?_;cases so h;exact ca J J J
 ·refine cF<|ap<|aB J<|zo J (mw ua tY (ht J))<|aB J<|zo J (gH (ht J) hI)<|ba J<|ba J<|al<|ai ?_;cases so h;exact ca J J J

theorem IM(a1:Int)(b:Int){R:Int×Bool}(h:wp a1 b=some R):aN aJ 333 [bu a1,bu b] (tT [bu R.1,er R.2]):=by
 refine aN.of Tryz.func333 J J J fun w0 S0=>ap<|zo J (bO)<|zo J (ef)<|al<|ap<|aB J<|bp h fun r q_r h=>zo J (ax EP (wT _ q_r) ⟨(ht J),aP⟩)<|aB J<|bp h fun r1 q_r1 h=>zo J (ax EP (wT _ q_r1) ⟨(ht J),aP⟩)<|bp h fun r2 q_r2 h=>zo J (ax NT (IL _ _ q_r2) ⟨(ht J),(ht J),aP⟩)<|aB J<|zo J (eT J J)<|zo J (eT J J)<|ba J<|ba J<|al ?_;refine ap<|aB J<|aB J<|zo J (dO (ht J) hI)<|aB J<|zo J (dO (ht J) hI)<|zo J (Em Le (ht J) (ht J))<|bp h fun r3 q_r3 h=>zo J (ax KI (Ev _ _ q_r3) ⟨(ht J),(ht J),aP⟩)<|aB J<|zo J (eT J J)<|zo J (eT J J)<|ba J<|ba J<|al<|ap<|aB J<|aB J<|aB J<|cd J J (fun hg=>cr J)<|cd J J (fun hg=>cA (bk J hg) hI) ?_;refine zo J (ms J J)<|ba J<|ba J<|al<|ai ?_;cases so h;exact ca J J J

theorem Je(a1:M)(b:M){R:M×Int}(h:vH a1 b=some R):aN aJ 269 [tD ac a1,tD ac b] (tT [tD ac R.1,bu R.2]):=by
 refine aN.of Tryz.func269 J J J fun w0 S0=>ap<|zo J (ff J)<|zo J (ff J)<|aV (r:=ac) (x:=eS) aG (fun _=>aZ _) J fun b1=>zo J (bO)<|al<|ap<|zo J (bn aG J J)<|zo J (bn aG J J)<|bp h fun r q_r h=>zo J (ax EQ (wU _ _ _ q_r) ⟨(ht J),(ht J),(sr NU fun x y h=>IM _ _ h),aP⟩)<|zo J (eT J J)<|zo J (eT J J)<|av aG J am J (ht J) (ht J)<|aS 4 J<|ba J<|al<|ai ?_;cases so h;exact bF J J ⟨bq aG J J J,aW J,aP⟩

theorem IK(a1:Int)(b:Int){R:Int×Bool}(h:wq a1 b=some R):aN aJ 337 [bu a1,bu b] (tT [bu R.1,er R.2]):=by
 refine aN.of Tryz.func337 J J J fun w0 S0=>ap<|zo J (bO)<|zo J (ef)<|al<|ae<|ap<|aB J<|zo J (io J)<|al<|bX h J (fun h=>?_) (fun h=>?_)
 ·refine ap<|zo J (bO)<|zo J (ef)<|al<|ai<|aa ?_;cases so h;exact ca J J J
 ·refine cF<|ap<|aB J<|bp h fun r q_r h=>zo J (ax EP (wT _ q_r) ⟨(ht J),aP⟩)<|aB J<|bp h fun r1 q_r1 h=>zo J (ax EP (wT _ q_r1) ⟨(ht J),aP⟩)<|bp h fun u q_u h=>zo J (LM (ht J) (ht J) (Ig q_u))<|aB J<|zo J (dO (ht J) hI)<|aB J<|zo J (dO (ht J) hI)<|zo J (Em Le (ht J) (ht J))<|bp h fun r2 q_r2 h=>zo J (ax KI (Ev _ _ q_r2) ⟨(ht J),(ht J),aP⟩)<|zo J (eT J J)<|zo J (eT J J)<|ba J<|ba J<|aL ?_;refine ak<|ai ?_;cases so h;exact ca J J J

theorem Jd(a1:M)(b:M){R:M×Int}(h:vI a1 b=some R):aN aJ 270 [tD ac a1,tD ac b] (tT [tD ac R.1,bu R.2]):=by
 refine aN.of Tryz.func270 J J J fun w0 S0=>ap<|zo J (ff J)<|zo J (ff J)<|aV (r:=ac) (x:=eS) aG (fun _=>aZ _) J fun b1=>zo J (bO)<|al<|ap<|zo J (bn aG J J)<|zo J (bn aG J J)<|bp h fun r q_r h=>zo J (ax EQ (wU _ _ _ q_r) ⟨(ht J),(ht J),(sr NR fun x y h=>IK _ _ h),aP⟩)<|zo J (eT J J)<|zo J (eT J J)<|av aG J am J (ht J) (ht J)<|aS 4 J<|ba J<|al<|ai ?_;cases so h;exact bF J J ⟨bq aG J J J,aW J,aP⟩

theorem IJ(c:Int){R:Bool}(h:sN c=some R):aN aJ 338 [bu c] (er R):=by
 refine aN.of Tryz.func338 J J J fun w0 S0=>ap<|zo J (ef)<|al<|ap<|aB J<|zo J (io J)<|ba J<|al<|ai ?_;cases so h;exact ay J J

theorem EC(a1:M)(b:M){R:M×Int}(h:oO a1 b=some R):aN aJ 271 [tD ac a1,tD ac b] (tT [tD ac R.1,bu R.2]):=by
 refine aN.of Tryz.func271 J J J fun w0 S0=>ap<|zo J (ff J)<|zo J (ff J)<|aV (r:=ac) (x:=eS) aG (fun _=>aZ _) J fun b1=>zo J (bO)<|al<|ap<|zo J (bn aG J J)<|zo J (bn aG J J)<|bp h fun r q_r h=>zo J (ax KJ (Ew _ _ _ q_r) ⟨(ht J),(ht J),(sr NQ fun x y h=>IJ _ h),aP⟩)<|zo J (eT J J)<|zo J (eT J J)<|av aG J am J (ht J) (ht J)<|aS 4 J<|ba J<|al<|ai ?_;cases so h;exact bF J J ⟨bq aG J J J,aW J,aP⟩

theorem II(do1:(M→M→Option (M×Int)))(a1:M)(b:M){R:M×Int}(h:tG do1 a1 b=some R):aN aJ 339 [tD ac a1,tD ac b,bv (rT ((cB aJ lC nK (fun(x:M×M)=>do1 x.1 x.2)))) ()] (tT [tD ac R.1,bu R.2]):=by
 refine aN.of Tryz.func339 J J J fun w0 S0=>ap<|zo J (ff J)<|zo J (ff J)<|aV (r:=ac) (x:=eS) aG (fun _=>aZ _) J fun b1=>zo J (bO)<|al<|ap<|zo J (mJ Kw (ht J))<|zo J (bn aG J J)<|zo J (bn aG J J)<|bp h fun r q_r h=>zo J (dz (args:=lC) (res:=wz) (f:=(fun(x:M×M)=>do1 x.1 x.2)) (x:=((a1,b):M×M)) (ht J) q_r ⟨(ht J),(ht J),aP⟩)<|aB J<|zo J (eT J J)<|zo J (eT J J)<|aV (r:=ac) (x:=eS) aG (fun _=>aZ _) J fun b2=>av aG J am J (ht J) (ht J)<|aS 7 J<|ba J<|aL ?_;refine ak<|ae<|ap<|aB rfl<|zo rfl (pt rfl)<|al<|bX h rfl (fun h=>?_) (fun h=>?_)
 ·refine ap<|zo J (bn aG J J)<|aB J<|av aG J am J (ht J) (ht J)<|ba J<|al<|ai<|aa<|bg 5 J ?_;cases so h;exact bF J J ⟨bq aG J J J,aW J,aP⟩
 ·refine cF<|ap<|zo J (bn aG J J)<|bp h fun r1 q_r1 h=>zo J (ax KU (EF _ q_r1) ⟨(ht J),aP⟩)<|zo J (eT J J)<|zo J (eT J J)<|av aG J am J (ht J) (ht J)<|ba J<|al<|ai<|bg 5 J ?_;cases so h;exact bF J J ⟨bq aG J J J,aW J,aP⟩

theorem AW(do1:(M→M→Option (M×Int))){R:(M→M→Option (M×Int))}(h:uL do1=some R):aN aJ 272 [(cB aJ lC nK (fun(x:M×M)=>do1 x.1 x.2))] ((cB aJ lC nK (fun(x:M×M)=>R x.1 x.2))):=by
 refine aN.of Tryz.func272 J J J fun w0 S0=>ap<|zo J (sk (ht J))<|zo J (aD hV)<|al<|ap<|zo J ((show bB _ _ _ _ ((cB aJ lC nK (fun(x:M×M)=>(tG do1) x.1 x.2)))from eB (cts:=[bv (rT ((cB aJ lC nK (fun(x:M×M)=>do1 x.1 x.2)))) ()]) (caps:=[.tmp 1]) NP ⟨(ht J),aP⟩ (fun x y h=>II _ _ _ h)))<|ba J<|al<|ai ?_;cases so h;exact ay J J

theorem IH(l:(List Int)){R:Int}(h:vU l=some R):aN aJ 340 [iA l] (bu R):=by
 refine aN.of Tryz.func340 J J J fun w0 S0=>ap<|zo J (bO)<|al<|ae<|bp h fun e q_e h=>bp h fun e1 q_e1 h=>?_
 refine bZ (ts:=[_,_,_,_,_,_,_,_]) mixed J J
  ⟨dp 0 J J J (cr J),
  ⟨bH 3 0 J J J (bf ed bP J (ht J) hI q_e),
  ⟨bH 4 1 J J J (bn bP J J),
  ⟨dp 0 J J J (cr J),
  ⟨bH 6 3 J J J (bf ed bP J (ht J) hI q_e1),
  ⟨bH 7 4 J J J (bn bP J J),
  ⟨cO 5 2 8 5 J J J J (Eo (ht J) (ht J)),
  ⟨bH 9 6 J J J (pe J),
  aP⟩⟩⟩⟩⟩⟩⟩⟩ ?_
 refine ak<|ai ?_;cases so h;exact ay J J

theorem Jc(a1:M)(b:M){R:M×Int}(h:vh a1 b=some R):aN aJ 273 [tD ac a1,tD ac b] (tT [tD ac R.1,bu R.2]):=by
 refine aN.of Tryz.func273 J J J fun w0 S0=>ap<|zo J (ff J)<|zo J (ff J)<|aV (r:=ac) (x:=eS) aG (fun _=>aZ _) J fun b1=>zo J (bO)<|al<|ap<|zo J (bn aG J J)<|zo J (bn aG J J)<|zo J (aR (r:=ac) (ys:=[a1,b]) (xs:=[.tmp 6,.tmp 7]) ns aG J J J J J ⟨(ht J),(ht J),aP⟩)<|bp h fun r q_r h=>zo J (ax Hp (AS _ _ q_r) ⟨(sr NO fun x y h=>IH _ h),(ht J),aP⟩)<|zo J (eT J J)<|zo J (eT J J)<|av aG J am J (ht J) (ht J)<|aS 4 J<|ba J<|al<|ai ?_;cases so h;exact bF J J ⟨bq aG J J J,aW J,aP⟩

theorem IG(l:(List Int)){R:Int}(h:xl l=some R):aN aJ 341 [iA l] (bu R):=by
 refine aN.of Tryz.func341 J J J fun w0 S0=>ap<|zo J (bO)<|al<|ae<|bp h fun e q_e h=>bp h fun e1 q_e1 h=>?_
 refine bZ (ts:=[_,_,_,_,_,_,_,_]) mixed J J
  ⟨dp 0 J J J (cr J),
  ⟨bH 3 0 J J J (bf ed bP J (ht J) hI q_e),
  ⟨bH 4 1 J J J (bn bP J J),
  ⟨dp 0 J J J (cr J),
  ⟨bH 6 3 J J J (bf ed bP J (ht J) hI q_e1),
  ⟨bH 7 4 J J J (bn bP J J),
  ⟨cO 5 2 8 5 J J J J (wP (ht J) (ht J)),
  ⟨bH 9 6 J J J (pe J),
  aP⟩⟩⟩⟩⟩⟩⟩⟩ ?_
 refine ak<|ai ?_;cases so h;exact ay J J

theorem Jb(a1:M)(b:M){R:M×Int}(h:xm a1 b=some R):aN aJ 274 [tD ac a1,tD ac b] (tT [tD ac R.1,bu R.2]):=by
 refine aN.of Tryz.func274 J J J fun w0 S0=>ap<|zo J (ff J)<|zo J (ff J)<|aV (r:=ac) (x:=eS) aG (fun _=>aZ _) J fun b1=>zo J (bO)<|al<|ap<|zo J (bn aG J J)<|zo J (bn aG J J)<|zo J (aR (r:=ac) (ys:=[a1,b]) (xs:=[.tmp 6,.tmp 7]) ns aG J J J J J ⟨(ht J),(ht J),aP⟩)<|bp h fun r q_r h=>zo J (ax Hp (AS _ _ q_r) ⟨(sr NN fun x y h=>IG _ h),(ht J),aP⟩)<|zo J (eT J J)<|zo J (eT J J)<|av aG J am J (ht J) (ht J)<|aS 4 J<|ba J<|al<|ai ?_;cases so h;exact bF J J ⟨bq aG J J J,aW J,aP⟩

theorem JH{R:(List (Int×(M→M→Option (M×Int))))}(h:zB=some R):aN aJ 183 [] (Ed (fun y:(M→M→Option (M×Int))=>sL aJ lC nK (fun(x:M×M)=>y x.1 x.2)) jE R):=by
 refine aN.of Tryz.func183 J J J fun w0 S0=>ap<|zo J (aD (show aH _ _ (.const (.map none)) (tV (.map none))from fun _ _ _=>J))<|al<|ap<|bp h fun r q_r h=>zo J (ax Ox (Jh _ q_r) ⟨(sr Ht fun x y h=>AX _ _ h),aP⟩)<|ba J<|al<|ap<|tN (q0 (fun y:(M→M→Option (M×Int))=>sL aJ lC nK (fun(x:M×M)=>y x.1 x.2))) jE J fun b=>bp h fun r1 q_r1 h=>zo J (ax KV (EG _ q_r1) ⟨(sr Ow fun x y h=>Jg _ h),aP⟩)<|dE (γ:=(fun y:(M→M→Option (M×Int))=>sL aJ lC nK (fun(x:M×M)=>y x.1 x.2))) (y:=r1) q8 (de nE) (ht J) (jP hI) (ke (ht J)) fun os=>bp h fun r2 q_r2 h=>zo J (ax KV (EG _ q_r2) ⟨(sr KU fun x y h=>EF _ h),aP⟩)<|dE (γ:=(fun y:(M→M→Option (M×Int))=>sL aJ lC nK (fun(x:M×M)=>y x.1 x.2))) (y:=r2) q8 (de nE) (ht J) (jP hI) (ke (ht J)) fun os1=>bp h fun r3 q_r3 h=>zo J (ax KT (EE _ q_r3) ⟨hB,aP⟩) ?_;refine dE (γ:=(fun y:(M→M→Option (M×Int))=>sL aJ lC nK (fun(x:M×M)=>y x.1 x.2))) (y:=r3) q8 (de nE) (ht J) (jP hI) (ke (ht J)) fun os2=>bp h fun r4 q_r4 h=>zo J (ax KT (EE _ q_r4) ⟨hB,aP⟩)<|dE (γ:=(fun y:(M→M→Option (M×Int))=>sL aJ lC nK (fun(x:M×M)=>y x.1 x.2))) (y:=r4) q8 (de nE) (ht J) (jP hI) (ke (ht J)) fun os3=>dE (γ:=(fun y:(M→M→Option (M×Int))=>sL aJ lC nK (fun(x:M×M)=>y x.1 x.2))) (y:=vJ) q8 (de nE) (ht J) (jP hI) (ke (sr Ov fun x y h=>Jf _ _ h)) fun os4=>dE (γ:=(fun y:(M→M→Option (M×Int))=>sL aJ lC nK (fun(x:M×M)=>y x.1 x.2))) (y:=sA) q8 (de nE) (ht J) (jP hI) (ke (sr KS fun x y h=>ED _ _ h)) fun os5=>dE (γ:=(fun y:(M→M→Option (M×Int))=>sL aJ lC nK (fun(x:M×M)=>y x.1 x.2))) (y:=vH) q8 (de nE) (ht J) (jP hI) (ke (sr Ou fun x y h=>Je _ _ h)) fun os6=>dE (γ:=(fun y:(M→M→Option (M×Int))=>sL aJ lC nK (fun(x:M×M)=>y x.1 x.2))) (y:=vI) q8 (de nE) (ht J) (jP hI) (ke (sr Ot fun x y h=>Jd _ _ h)) fun os7=>dE (γ:=(fun y:(M→M→Option (M×Int))=>sL aJ lC nK (fun(x:M×M)=>y x.1 x.2))) (y:=oO) q8 (de nE) (ht J) (jP hI) (ke (sr KR fun x y h=>EC _ _ h)) fun os8=>bp h fun r5 q_r5 h=>zo J (ax Hs (AW _ q_r5) ⟨(sr KR fun x y h=>EC _ _ h),aP⟩)<|dE (γ:=(fun y:(M→M→Option (M×Int))=>sL aJ lC nK (fun(x:M×M)=>y x.1 x.2))) (y:=r5) q8 (de nE) (ht J) (jP hI) (ke (ht J)) fun os9=>dE (γ:=(fun y:(M→M→Option (M×Int))=>sL aJ lC nK (fun(x:M×M)=>y x.1 x.2))) (y:=nO) q8 (de nE) (ht J) (jP hI) (ke (sr Ht fun x y h=>AX _ _ h)) fun os10=>aB J<|dE (γ:=(fun y:(M→M→Option (M×Int))=>sL aJ lC nK (fun(x:M×M)=>y x.1 x.2))) (y:=r) q8 (de nE) (ht J) (jP hI) (ke (ht J)) fun os11=>aB J<|bp h fun r6 q_r6 h=>zo J (ax Hs (AW _ q_r6) ⟨(ht J),aP⟩)<|dE (γ:=(fun y:(M→M→Option (M×Int))=>sL aJ lC nK (fun(x:M×M)=>y x.1 x.2))) (y:=r6) q8 (de nE) (ht J) (jP hI) (ke (ht J)) fun os12=>bp h fun r7 q_r7 h=>zo J (ax Hs (AW _ q_r7) ⟨(sr Ht fun x y h=>AX _ _ h),aP⟩)<|dE (γ:=(fun y:(M→M→Option (M×Int))=>sL aJ lC nK (fun(x:M×M)=>y x.1 x.2))) (y:=r7) q8 (de nE) (ht J) (jP hI) (ke (ht J)) fun os13=>dE (γ:=(fun y:(M→M→Option (M×Int))=>sL aJ lC nK (fun(x:M×M)=>y x.1 x.2))) (y:=vh) q8 (de nE) (ht J) (jP hI) (ke (sr Oq fun x y h=>Jc _ _ h)) fun os14=>dE (γ:=(fun y:(M→M→Option (M×Int))=>sL aJ lC nK (fun(x:M×M)=>y x.1 x.2))) (y:=xm) q8 (de nE) (ht J) (jP hI) (ke (sr Oo fun x y h=>Jb _ _ h)) fun os15=>?_;refine aB J<|ba J<|al<|ai<|CF 0 J ?_;cases so h;exact ay J J

theorem Mg{l:Option Nat}{c:Nat}{xs s:List M}{lo:Int}{R:List M}(hs:dx xs lo (xs.length:Int)=some s)(h:eY s=some R):cy aJ 276 [tV (kd 4 l c lo.toNat s.length)] [dJ ac 46 l c xs] (fun i:OI=>mp (i.h 0).1 (i.h 0).2 R) (fun i=>[dJ ac 46 (i.h 0).1 (i.h 0).2 R,dJ ac 46 l c xs]):=by
 refine cy.of Tryz.func276 J J J fun w0 S0=>ap<|zo J (aD mZ)<|al<|ae<|ap<|aB J<|zQ (r:=ac) ns (.head _) hs (ht J) J fun isnil hisnil=>al<|kE (ht J) (fun hc=>?_) (fun hc=>?_)
 ·have hx:=hisnil hc
  have h:some Aj=some R:=by simpa [eY,k5,hx] using h
  refine ap<|bA false ac 46<|zo J (aD mZ)<|al<|ai<|aa ?_;cases so h;exact jl J (oi none 0) J J (fun _ _ h=>h)
 ·refine cF<|ap<|fJ (r:=ac) (ys:=Aj) (xs:=[]) ns aG J J J J J trivial J fun l1 c1=>aB J<|bp h fun x q_x h=>yw aG J J J J ns J J (ht J) (.tail _ (.head _)) hs (ht J) q_x fun l2 c2=>ba J<|al<|ai ?_;cases so h;exact jl J (oi l2 c2) J J (fun _ _ h=>h)

theorem G1(b:Nat)(l:Option Nat)(c:Nat)(stack:(List M))(k:Int){R:(List M)×(List M)}(h:lI stack k=some R):cy aJ 275 [bu k,tV (aO b 0)] [bx rV 42 b (aQ l c stack.length),dJ ac 46 l c stack] (fun i:OI=>bK (ac) R.1) (fun i=>[bx rV 42 b (aQ (i.h 0).1 (i.h 0).2 R.2.length),dJ ac 46 (i.h 0).1 (i.h 0).2 R.2]):=by
 refine cy.of Tryz.func275 J J J fun w0 S0=>ap<|zo J (aD (show aH _ _ _ (bK (ac) ([]))from gr))<|al<|ap<|zo J (eN An (.head _) (ht J))<|zo J (eN An (.head _) (ht J))<|zo J (fO ns (.tail _ (.head _)) (ht J))<|aB J<|zo J (eZ (ht J) (ht J))<|bp h fun y q_y h=>zo J (jN ns aG J (.tail _ (.head _)) (ht J) (ht J) q_y)<|je (.tail _ (.head _)) q_y fun hv=>bz<|bp h fun r q_r h=>uY [dJ ac 46 l c stack] _ J On (Mg q_y q_r) ⟨(ht J),aP⟩ J fun i=>?_;refine(show RG _ _ _ _ [dJ ac 46 (i.h 0).1 (i.h 0).2 r,dJ ac 46 l c stack,bx rV 42 b (aQ l c stack.length)] _ from ?_);refine ba J<|al<|ap<|zo J (eN An (.tail _ (.tail _ (.head _))) (ht J))<|zo J (eN An (.tail _ (.tail _ (.head _))) (ht J))<|zo J (fO ns (.tail _ (.head _)) (ht J))<|aB J<|zo J (eZ (ht J) (ht J))<|bp h fun y1 q_y1 h=>zo J (hJ ns aG J (.tail _ (.head _)) (ht J) (ht J) q_y1)<|bz<|qI q_y1<|eO<|av An J am J (ht J) (GJ (ht J))<|al<|ap<|aB J<|ba J<|al ?_;refine ai<|aK<|fQ<|ce 3 J<|ce 11 J<|ce 4 J<|ce 18 J<|fR 3 J<|aY<|bt<|bt ?_;cases so h;exact jl J (oi l c) J J (fun _ _ h=>h)

end Go.Proofs.YtfhhakidodmdfaaGreatDoor

