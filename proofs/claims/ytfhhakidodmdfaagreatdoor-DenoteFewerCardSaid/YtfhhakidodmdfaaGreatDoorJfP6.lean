/- cU of this claim: P6. -/
import Derived.Test.YtfhhakidodmdfaaGreatDoorJfT
import Derived.Test.YtfhhakidodmdfaaGreatDoorJfP5
set_option linter.all false
namespace Go.Proofs.YtfhhakidodmdfaaGreatDoor
open Go
set_option maxRecDepth 100000

theorem Vs(a1:Int)(b:Int){R:Int×Bool}(h:pX a1 b=some R):aW aQ 332 [bN a1,bN b] (tT [bN R.1,iO R.2]):=by
 refine aW.of Tryz.func332 J J J fun w0 S0=>aw<|zo J (cy)<|zo J (jy)<|av<|aw<|aG J<|aG J<|zo J (iq (ht J) (ht J))<|bq J<|av<|aw<|aG J<|aG J<|aG J<|zo J (Cw (ht J) (ht J))<|aG J<|aG J<|zo J (Cw (ht J) (ht J)) ?_;refine zo J (Cy (ht J) (ht J))<|zo J (ir (ht J) hI)<|bq J<|bq J<|av<|am ?_;cases so h;exact cP J J J

theorem Pp(a1:ac)(b:ac){R:ac×Int}(h:v7 a1 b=some R):aW aQ 268 [tD af a1,tD af b] (tT [tD af R.1,bN R.2]):=by
 refine aW.of Tryz.func268 J J J fun w0 S0=>aw<|zo J (js J)<|zo J (js J)<|aX (r:=af) (x:=iy) aI (fun _=>bk _) J fun b1=>zo J (cy)<|av<|aw<|zo J (bC aI J J)<|zo J (bC aI J J)<|bB h fun r q_r h=>zo J (aB PI (Eh _ _ _ q_r) ⟨(ht J),(ht J),(zJ abj fun x y h=>Vs _ _ h),aS⟩)<|zo J (gE J J)<|zo J (gE J J)<|aq aI J an J (ht J) (ht J)<|aV 4 J<|bq J<|av<|am ?_;cases so h;exact bQ J J ⟨bt aI J J J,aZ J,aS⟩

theorem VO(a1:ac){R:ac×Int}(h:zn a1=some R):aW aQ 264 [tD af a1] (tT [tD af R.1,bN R.2]):=by
 refine aW.of Tryz.func264 J J J fun w0 S0=>aw<|zo J (js J)<|aX (r:=af) (x:=iy) aI (fun _=>bk _) J fun b=>zo J (cy)<|av<|ah<|bB h fun r q_r h=>bB h fun r1 q_r1 h=>?_
 refine qJ 5 (ts:=[tD af r,tD af a1,tT [tD af r1.1,bN r1.2],tD af r1.1,bN r1.2]) mixed J J J
  ⟨Qg J J (aB LY (BK _ q_r) ⟨hI,aS⟩),
  ⟨eH 1 J J J (bC aI J J),
  ⟨d3 4 0 5 1 J J J J (aB XL (Pp _ _ q_r1) ⟨(ht J),(ht J),aS⟩),
  ⟨bZ 6 2 J J J (gE J J),
  ⟨bZ 6 2 J J J (gE J J),
  aS⟩⟩⟩⟩⟩ ?_
 refine aq aI J an J (ht J) (ht J)<|aV 2 J<|bq J<|av<|am ?_;cases so h;exact bQ J J ⟨bt aI J J J,aZ J,aS⟩

theorem Vg(v:ac){R:Int}(h:xV v=some R):aW aQ 365 [tD af v] (bN R):=by
 refine aW.of Tryz.func365 J J J fun w0 S0=>aw<|zo J (js J)<|zo J (cy)<|av<|ah<|aw<|zo J (c9 iu cS J J)<|zo J (bC cr J J)<|zo J (nX J)<|av<|c0 h J (fun h=>?_) (fun h=>?_)
 ·refine aw<|zo J (cy)<|av<|am<|ae ?_;cases so h;exact aH J J
 ·refine dP<|aw<|zo J (c9 ml fI J J)<|zo J (bC Gx J J)<|zo J (yp hI (ht J))<|bq J<|av<|am ?_;cases so h;exact aH J J

theorem Ji(to1:((List Int)→Option Int))(l:(List ac)){R:ac×Int}(h:oh to1 l=some R):aW aQ 327 [(dR aQ (fun(x:(List Int))=>[mK x]) xT (fun(x:(List Int))=>to1 x)),bW (af) l] (tT [tD af R.1,bN R.2]):=by
 refine aW.of Tryz.func327 J J J fun w0 S0=>aw<|aX (r:=af) (x:=iy) aI (fun _=>bk _) J fun b=>zo J (cy)<|av<|ah<|aw<|aG J<|bB h fun r q_r h=>zo J (aB XC (Pg _ q_r) ⟨(ht J),aS⟩)<|bq J<|av<|aw<|aG J<|zo J (s8 J)<|av<|c0 h J (fun h=>?_) (fun h=>?_)
 ·refine aw<|zo J (bY (y:=iy) aI qO bk (J))<|aG J<|aq aI J an J (ht J) (ht J)<|bq J<|av<|am<|ae<|bj 4 J ?_;cases so h;exact bQ J J ⟨bt aI J J J,aZ J,aS⟩
 ·refine dP<|aw<|bP false ca 3<|zo J (aM ud)<|av<|ah<|aw<|aG J<|zo J (i7 kC J)<|zo J (bE hI)<|av<|ay<|ba (k:=16) J fun hN=>bL ?_;refine aR (uA (Z:=fun ls i n l1 c x=>(l.drop i=ls)∧lZ to1 ls n x=some R) (Of:=fun _ i n l1 c x=>[fE ca 3 l1 c n,bx af 46 b x]) (Gf:=fun _ i n l1 c x=>[(0,(dR aQ (fun(x:(List Int))=>[mK x]) xT (fun(x:(List Int))=>to1 x))),(4,tV (aO b 0)),(7,sH l1 c n),(16,bW (af) l),(17,jr l),(18,bN (i:Int))]) (fun i n l1 c x h=>?_) (fun e tl ih i n l1 c x h=>?_) l 0 vw none 0 iy ⟨J,h⟩) (bu J)
  ·obtain⟨hx,h⟩:=h
   refine aA<|aw<|zo J (fF J J)<|av<|ah<|bz (ht J) (dm hx)<|bv ?_;refine ai (ai (aN ?_));refine ax<|aw<|aG rfl<|aG rfl<|kJ<|jM 7 rfl<|jM 33 rfl<|bB h fun r1 q_r1 h=>zo J (eU (args:=(fun(x:(List Int))=>[tD xR x])) (res:=Gu) (f:=(fun(x:(List Int))=>to1 x)) (x:=((n):(List Int))) (ht J) q_r1 ⟨(lb (ht J)),aS⟩)<|bB h fun e1 q_e1 h=>zo J (Rc (r:=vg af 3) (x:=gv2) gm2 gr2 (GK Tryz.underlying344 aI J aaC (ht J) q_e1))<|zo J (bC aI J J)<|bH<|aq aI J an J (ht J) (ht J)<|zo J (cy)<|av<|am<|bj 4 J<|bf ?_;cases so h;exact bQ J J ⟨bt aI J J J,aZ J,aS⟩
  ·obtain⟨hx,h⟩:=h
   refine aA<|aw<|zo J (fF J J)<|av<|ah<|bw (ht J) (dg hx)<|dP<|ah<|ay<|aw<|zo J (mz kC aI J J J (cT hx))<|zo J (bC aI J J)<|aX (r:=af) (x:=iy) aI (fun _=>bk _) J fun b1=>aq aI J an J (ht J) (ht J)<|aV 9 J<|av<|ah<|aw ?_;refine zo J (c9 iu cS J J)<|zo J (bC cr J J)<|zo J (fU (ht J) hI)<|av<|c0 h J (fun h=>?_) (fun h=>?_)
   ·refine aw<|zo J (bY (y:=iy) aI qO bk (J))<|bH<|aq aI J an J (ht J) (ht J)<|zo J (cy)<|av<|am ?_;refine ae (aD (ae (ae (aD (ae ?_)))));refine bj 4 J<|bf ?_;cases so h;exact bQ J J ⟨bt aI J J J,aZ J,aS⟩
   ·refine dP<|au<|aG J<|zo J (bC aI J J)<|bB h fun r2 q_r2 h=>zo J (aB aa6 (Vg _ q_r2) ⟨(ht J),aS⟩)<|zo J (aU (r:=ca) (ys:=[r2]) (xs:=[.tmp 28]) hX cr J J J J J ⟨(ht J),aS⟩)<|bB h fun n1 q_n1 h=>db cr J J J J hX J J (ht J) (ht J) q_n1 fun l2 c1=>bq J<|aP<|ap<|ax<|au<|zo rfl (lT (cx hx hN) rfl)<|aG rfl<|aP ?_;exact bg (aR (ih (i+1) n1 l2 c1 x ⟨cw hx,h⟩) (bu J))

theorem Vv(l:(List Int)){R:Int}(h:Dg l=some R):aW aQ 328 [mK l] (bN R):=by
 refine aW.of Tryz.func328 J J J fun w0 S0=>aw<|zo J (cy)<|av<|aw<|aG J<|bB h fun e q_e h=>zo J (br hX cr J (ht J) hI q_e)<|zo J (bC cr J J)<|zo J (iq hI (ht J))<|bq J<|av<|am ?_;cases so h;exact aH J J

theorem Pr(a1:ac){R:ac×Int}(h:qU a1=some R):aW aQ 265 [tD af a1] (tT [tD af R.1,bN R.2]):=by
 refine aW.of Tryz.func265 J J J fun w0 S0=>aw<|zo J (js J)<|aX (r:=af) (x:=iy) aI (fun _=>bk _) J fun b=>zo J (cy)<|av<|aw<|zo J (bC aI J J)<|zo J (aU (r:=af) (ys:=[a1]) (xs:=[.tmp 4]) kC aI J J J J J ⟨(ht J),aS⟩)<|bB h fun r q_r h=>zo J (aB Tj (Ji _ _ q_r) ⟨(zJ abm fun x y h=>Vv _ h),(ht J),aS⟩)<|zo J (gE J J)<|zo J (gE J J)<|aq aI J an J (ht J) (ht J)<|aV 2 J<|bq J<|av<|am ?_;cases so h;exact bQ J J ⟨bt aI J J J,aZ J,aS⟩

theorem Vu(is1:Bool)(a1:ac)(x:ac){R:ac×Int}(h:oF is1 a1 x=some R):aW aQ 329 [tD af a1,tD af x,bM rB is1] (tT [tD af R.1,bN R.2]):=by
 refine aW.of Tryz.func329 J J J fun w0 S0=>aw<|zo J (js J)<|zo J (js J)<|aX (r:=af) (x:=iy) aI (fun _=>bk _) J fun b=>zo J (cy)<|av<|aw<|zo J (c9 iu cS J J)<|zo J (bC cr J J)<|zo J (nX J)<|zo J (bC Km J J)<|zo J (UL OB (ht J) (ht J))<|bB h fun r q_r h=>zo J (aB To (Jo _ q_r) ⟨(ht J),aS⟩)<|aq aI J an J (ht J) (ht J)<|aV 5 J<|zo J (cy)<|av<|am ?_;cases so h;exact bQ J J ⟨bt aI J J J,aZ J,aS⟩

theorem Pq(is1:Bool){R:(ac→ac→Option (ac×Int))}(h:CJ is1=some R):aW aQ 266 [iO is1] ((dR aQ qK tE (fun(x:ac×ac)=>R x.1 x.2))):=by
 refine aW.of Tryz.func266 J J J fun w0 S0=>aw<|zo J (js J)<|zo J (aM hV)<|av<|aw<|zo J ((show bR _ _ _ _ ((dR aQ qK tE (fun(x:ac×ac)=>(oF is1) x.1 x.2)))from ig (cts:=[bM rB is1]) (caps:=[.tmp 1]) abl ⟨(ht J),aS⟩ (fun x y h=>Vu _ _ _ h)))<|bq J<|av<|am ?_;cases so h;exact aH J J

theorem Vt(a1:Int)(b:Int){R:Int×Bool}(h:sl a1 b=some R):aW aQ 331 [bN a1,bN b] (tT [bN R.1,iO R.2]):=by
 refine aW.of Tryz.func331 J J J fun w0 S0=>aw<|zo J (cy)<|zo J (jy)<|av<|aw<|aG J<|aG J<|zo J (nY (ht J) (ht J))<|bq J<|av<|aw<|aG J<|aG J<|aG J<|zo J (Cw (ht J) (ht J))<|aG J<|aG J<|zo J (Cw (ht J) (ht J)) ?_;refine zo J (Cy (ht J) (ht J))<|zo J (ir (ht J) hI)<|bq J<|bq J<|av<|am ?_;cases so h;exact cP J J J

theorem VN(a1:ac)(b:ac){R:ac×Int}(h:CW a1 b=some R):aW aQ 267 [tD af a1,tD af b] (tT [tD af R.1,bN R.2]):=by
 refine aW.of Tryz.func267 J J J fun w0 S0=>aw<|zo J (js J)<|zo J (js J)<|aX (r:=af) (x:=iy) aI (fun _=>bk _) J fun b1=>zo J (cy)<|av<|aw<|zo J (bC aI J J)<|zo J (bC aI J J)<|bB h fun r q_r h=>zo J (aB PI (Eh _ _ _ q_r) ⟨(ht J),(ht J),(zJ abk fun x y h=>Vt _ _ h),aS⟩)<|zo J (gE J J)<|zo J (gE J J)<|aq aI J an J (ht J) (ht J)<|aV 4 J<|bq J<|av<|am ?_;cases so h;exact bQ J J ⟨bt aI J J J,aZ J,aS⟩

theorem Vq(p:Int)(y:Int){R:Int×Int}(h:nq p y=some R):aW aQ 334 [tD Ie p,tD Ie y] (tT [tD Ie R.1,tD Ie R.2]):=by
 refine aW.of Tryz.func334 J J J fun w0 S0=>aw<|zo J (cy)<|zo J (cy)<|av<|aw<|aG J<|zo J (Cy (ht J) hI)<|bq J<|av<|aw<|aG J<|zo J (Cx (ht J) hI (by decide))<|bq J<|av<|aw<|aG J ?_;refine zo J (Cy (ht J) hI)<|bq J<|av<|aw<|aG J<|zo J (Cx (ht J) hI (by decide))<|bq J<|av<|aw<|aG J<|aG J<|zo J (yp (ht J) (ht J))<|bq J<|av<|aw<|aG J<|aG J<|zo J (yp (ht J) (ht J)) ?_;refine aG J<|zo J (Cx (ht J) hI (by decide))<|zo J (nY (ht J) (ht J))<|bq J<|av<|aw<|aG J<|zo J (Cy (ht J) hI)<|bq J<|av<|aw<|aG J<|zo J (Cx (ht J) hI (by decide))<|bq J<|av<|aw<|aG J<|aG J ?_;refine aG J<|zo J (yp (ht J) (ht J))<|zo J (nY (ht J) (ht J))<|bq J<|av<|aw<|aG J<|aG J<|zo J (yp (ht J) (ht J))<|aG J<|zo J (nY (ht J) (ht J))<|aG J<|zo J (Cx (ht J) hI (by decide))<|zo J (nY (ht J) (ht J))<|bq J<|av<|aw<|aG J<|aG J<|zo J (yp (ht J) (ht J)) ?_;refine bq J<|av<|am ?_;cases so h;exact cP J J J

theorem Eg(n:Int){R:Int}(h:pL n=some R):aW aQ 335 [bN n] (tD Ie R):=by
 refine aW.of Tryz.func335 J J J fun w0 S0=>aw<|zo J (cy)<|av<|ah<|aw<|aG J<|zo J (gx (ht J) hI)<|av<|c0 h J (fun h=>?_) (fun h=>?_)
 ·refine aw<|aG J<|zo J (sY A1 A4 (ht J))<|zo J (IW (ht J))<|bq J<|av<|am<|ae ?_;cases so h;exact aH J J
 ·refine dP<|aw<|aG J<|zo J (sY A1 A4 (ht J))<|bq J<|av<|am ?_;cases so h;exact aH J J

theorem Ph(u:Int)(below:Bool){R:Int×Bool}(h:nj u below=some R):aW aQ 336 [tD Ie u,iO below] (tT [bN R.1,iO R.2]):=by
 refine aW.of Tryz.func336 J J J fun w0 S0=>aw<|zo J (cy)<|zo J (jy)<|av<|ah<|aw<|aG J<|av<|c0 h J (fun h=>?_) (fun h=>?_)
 ·refine aw<|aG J<|zo J (IW (ht J))<|zo J (sY A4 A1 (ht J))<|aG J<|zo J (mY (ht J) hI)<|bq J<|bq J<|av<|am<|ae ?_;cases so h;exact cP J J J
 ·refine dP<|aw<|aG J<|zo J (sY A4 A1 (ht J))<|aG J<|zo J (mY (ht J) hI)<|bq J<|bq J<|av<|am ?_;cases so h;exact cP J J J

theorem Vr(a1:Int)(b:Int){R:Int×Bool}(h:mI a1 b=some R):aW aQ 333 [bN a1,bN b] (tT [bN R.1,iO R.2]):=by
 refine aW.of Tryz.func333 J J J fun w0 S0=>aw<|zo J (cy)<|zo J (jy)<|av<|aw<|aG J<|bB h fun r q_r h=>zo J (aB PH (Eg _ q_r) ⟨(ht J),aS⟩)<|aG J<|bB h fun r1 q_r1 h=>zo J (aB PH (Eg _ q_r1) ⟨(ht J),aS⟩)<|bB h fun r2 q_r2 h=>zo J (aB abh (Vq _ _ q_r2) ⟨(ht J),(ht J),aS⟩)<|aG J<|zo J (gE J J)<|zo J (gE J J)<|bq J<|bq J<|av ?_;refine aw<|aG J<|aG J<|zo J (gx (ht J) hI)<|aG J<|zo J (gx (ht J) hI)<|zo J (OU OB (ht J) (ht J))<|bB h fun r3 q_r3 h=>zo J (aB XD (Ph _ _ q_r3) ⟨(ht J),(ht J),aS⟩)<|aG J<|zo J (gE J J)<|zo J (gE J J)<|bq J<|bq J<|av<|aw<|aG J<|aG J<|aG J<|dN J J (fun hg=>de J)<|dN J J (fun hg=>dx (bG J hg) hI) ?_;refine zo J (vn J J)<|bq J<|bq J<|av<|am ?_;cases so h;exact cP J J J

theorem VM(a1:ac)(b:ac){R:ac×Int}(h:CU a1 b=some R):aW aQ 269 [tD af a1,tD af b] (tT [tD af R.1,bN R.2]):=by
 refine aW.of Tryz.func269 J J J fun w0 S0=>aw<|zo J (js J)<|zo J (js J)<|aX (r:=af) (x:=iy) aI (fun _=>bk _) J fun b1=>zo J (cy)<|av<|aw<|zo J (bC aI J J)<|zo J (bC aI J J)<|bB h fun r q_r h=>zo J (aB PI (Eh _ _ _ q_r) ⟨(ht J),(ht J),(zJ abi fun x y h=>Vr _ _ h),aS⟩)<|zo J (gE J J)<|zo J (gE J J)<|aq aI J an J (ht J) (ht J)<|aV 4 J<|bq J<|av<|am ?_;cases so h;exact bQ J J ⟨bt aI J J J,aZ J,aS⟩

theorem Vp(a1:Int)(b:Int){R:Int×Bool}(h:mJ a1 b=some R):aW aQ 337 [bN a1,bN b] (tT [bN R.1,iO R.2]):=by
 refine aW.of Tryz.func337 J J J fun w0 S0=>aw<|zo J (cy)<|zo J (jy)<|av<|ah<|aw<|aG J<|zo J (nX J)<|av<|c0 h J (fun h=>?_) (fun h=>?_)
 ·refine aw<|zo J (cy)<|zo J (jy)<|av<|am<|ae ?_;cases so h;exact cP J J J
 ·refine dP<|aw<|aG J<|bB h fun r q_r h=>zo J (aB PH (Eg _ q_r) ⟨(ht J),aS⟩)<|aG J<|bB h fun r1 q_r1 h=>zo J (aB PH (Eg _ q_r1) ⟨(ht J),aS⟩)<|bB h fun u q_u h=>zo J (YD (ht J) (ht J) (UO q_u))<|aG J<|zo J (gx (ht J) hI)<|aG J<|zo J (gx (ht J) hI)<|zo J (OU OB (ht J) (ht J))<|bB h fun r2 q_r2 h=>zo J (aB XD (Ph _ _ q_r2) ⟨(ht J),(ht J),aS⟩)<|zo J (gE J J)<|zo J (gE J J)<|bq J<|bq J<|aP ?_;refine ax<|am ?_;cases so h;exact cP J J J

theorem VL(a1:ac)(b:ac){R:ac×Int}(h:CV a1 b=some R):aW aQ 270 [tD af a1,tD af b] (tT [tD af R.1,bN R.2]):=by
 refine aW.of Tryz.func270 J J J fun w0 S0=>aw<|zo J (js J)<|zo J (js J)<|aX (r:=af) (x:=iy) aI (fun _=>bk _) J fun b1=>zo J (cy)<|av<|aw<|zo J (bC aI J J)<|zo J (bC aI J J)<|bB h fun r q_r h=>zo J (aB PI (Eh _ _ _ q_r) ⟨(ht J),(ht J),(zJ abg fun x y h=>Vp _ _ h),aS⟩)<|zo J (gE J J)<|zo J (gE J J)<|aq aI J an J (ht J) (ht J)<|aV 4 J<|bq J<|av<|am ?_;cases so h;exact bQ J J ⟨bt aI J J J,aZ J,aS⟩

theorem Vo(c:Int){R:Bool}(h:zR c=some R):aW aQ 338 [bN c] (iO R):=by
 refine aW.of Tryz.func338 J J J fun w0 S0=>aw<|zo J (jy)<|av<|aw<|aG J<|zo J (nX J)<|bq J<|av<|am ?_;cases so h;exact aH J J

theorem Po(a1:ac)(b:ac){R:ac×Int}(h:rP a1 b=some R):aW aQ 271 [tD af a1,tD af b] (tT [tD af R.1,bN R.2]):=by
 refine aW.of Tryz.func271 J J J fun w0 S0=>aw<|zo J (js J)<|zo J (js J)<|aX (r:=af) (x:=iy) aI (fun _=>bk _) J fun b1=>zo J (cy)<|av<|aw<|zo J (bC aI J J)<|zo J (bC aI J J)<|bB h fun r q_r h=>zo J (aB XE (Pi _ _ _ q_r) ⟨(ht J),(ht J),(zJ abf fun x y h=>Vo _ h),aS⟩)<|zo J (gE J J)<|zo J (gE J J)<|aq aI J an J (ht J) (ht J)<|aV 4 J<|bq J<|av<|am ?_;cases so h;exact bQ J J ⟨bt aI J J J,aZ J,aS⟩

theorem Vn(do1:(ac→ac→Option (ac×Int)))(a1:ac)(b:ac){R:ac×Int}(h:ui do1 a1 b=some R):aW aQ 339 [tD af a1,tD af b,bM (rT ((dR aQ qK tE (fun(x:ac×ac)=>do1 x.1 x.2)))) ()] (tT [tD af R.1,bN R.2]):=by
 refine aW.of Tryz.func339 J J J fun w0 S0=>aw<|zo J (js J)<|zo J (js J)<|aX (r:=af) (x:=iy) aI (fun _=>bk _) J fun b1=>zo J (cy)<|av<|aw<|zo J (vM Xh (ht J))<|zo J (bC aI J J)<|zo J (bC aI J J)<|bB h fun r q_r h=>zo J (eU (args:=qK) (res:=DQ) (f:=(fun(x:ac×ac)=>do1 x.1 x.2)) (x:=((a1,b):ac×ac)) (ht J) q_r ⟨(ht J),(ht J),aS⟩)<|aG J<|zo J (gE J J)<|zo J (gE J J)<|aX (r:=af) (x:=iy) aI (fun _=>bk _) J fun b2=>aq aI J an J (ht J) (ht J)<|aV 7 J<|bq J<|aP ?_;refine ax<|ah<|aw<|aG rfl<|zo rfl (s8 rfl)<|av<|c0 h rfl (fun h=>?_) (fun h=>?_)
 ·refine aw<|zo J (bC aI J J)<|aG J<|aq aI J an J (ht J) (ht J)<|bq J<|av<|am<|ae<|bj 5 J ?_;cases so h;exact bQ J J ⟨bt aI J J J,aZ J,aS⟩
 ·refine dP<|aw<|zo J (bC aI J J)<|bB h fun r1 q_r1 h=>zo J (aB XN (Pr _ q_r1) ⟨(ht J),aS⟩)<|zo J (gE J J)<|zo J (gE J J)<|aq aI J an J (ht J) (ht J)<|bq J<|av<|am<|bj 5 J ?_;cases so h;exact bQ J J ⟨bt aI J J J,aZ J,aS⟩

theorem Jl(do1:(ac→ac→Option (ac×Int))){R:(ac→ac→Option (ac×Int))}(h:BM do1=some R):aW aQ 272 [(dR aQ qK tE (fun(x:ac×ac)=>do1 x.1 x.2))] ((dR aQ qK tE (fun(x:ac×ac)=>R x.1 x.2))):=by
 refine aW.of Tryz.func272 J J J fun w0 S0=>aw<|zo J (Ec (ht J))<|zo J (aM hV)<|av<|aw<|zo J ((show bR _ _ _ _ ((dR aQ qK tE (fun(x:ac×ac)=>(ui do1) x.1 x.2)))from ig (cts:=[bM (rT ((dR aQ qK tE (fun(x:ac×ac)=>do1 x.1 x.2)))) ()]) (caps:=[.tmp 1]) abe ⟨(ht J),aS⟩ (fun x y h=>Vn _ _ _ h)))<|bq J<|av<|am ?_;cases so h;exact aH J J

theorem Vm(l:(List Int)){R:Int}(h:Dh l=some R):aW aQ 340 [mK l] (bN R):=by
 refine aW.of Tryz.func340 J J J fun w0 S0=>aw<|zo J (cy)<|av<|ah<|bB h fun e q_e h=>bB h fun e1 q_e1 h=>?_
 refine da (ts:=[_,_,_,_,_,_,_,_]) mixed J J
  ⟨eH 0 J J J (de J),
  ⟨bZ 3 0 J J J (br hX cr J (ht J) hI q_e),
  ⟨bZ 4 1 J J J (bC cr J J),
  ⟨eH 0 J J J (de J),
  ⟨bZ 6 3 J J J (br hX cr J (ht J) hI q_e1),
  ⟨bZ 7 4 J J J (bC cr J J),
  ⟨d3 5 2 8 5 J J J J (IX (ht J) (ht J)),
  ⟨bZ 9 6 J J J (vx J),
  aS⟩⟩⟩⟩⟩⟩⟩⟩ ?_
 refine ax<|am ?_;cases so h;exact aH J J

theorem VK(a1:ac)(b:ac){R:ac×Int}(h:s9 a1 b=some R):aW aQ 273 [tD af a1,tD af b] (tT [tD af R.1,bN R.2]):=by
 refine aW.of Tryz.func273 J J J fun w0 S0=>aw<|zo J (js J)<|zo J (js J)<|aX (r:=af) (x:=iy) aI (fun _=>bk _) J fun b1=>zo J (cy)<|av<|aw<|zo J (bC aI J J)<|zo J (bC aI J J)<|zo J (aU (r:=af) (ys:=[a1,b]) (xs:=[.tmp 6,.tmp 7]) kC aI J J J J J ⟨(ht J),(ht J),aS⟩)<|bB h fun r q_r h=>zo J (aB Tj (Ji _ _ q_r) ⟨(zJ abd fun x y h=>Vm _ h),(ht J),aS⟩)<|zo J (gE J J)<|zo J (gE J J)<|aq aI J an J (ht J) (ht J)<|aV 4 J<|bq J<|av<|am ?_;cases so h;exact bQ J J ⟨bt aI J J J,aZ J,aS⟩

theorem Vl(l:(List Int)){R:Int}(h:EI l=some R):aW aQ 341 [mK l] (bN R):=by
 refine aW.of Tryz.func341 J J J fun w0 S0=>aw<|zo J (cy)<|av<|ah<|bB h fun e q_e h=>bB h fun e1 q_e1 h=>?_
 refine da (ts:=[_,_,_,_,_,_,_,_]) mixed J J
  ⟨eH 0 J J J (de J),
  ⟨bZ 3 0 J J J (br hX cr J (ht J) hI q_e),
  ⟨bZ 4 1 J J J (bC cr J J),
  ⟨eH 0 J J J (de J),
  ⟨bZ 6 3 J J J (br hX cr J (ht J) hI q_e1),
  ⟨bZ 7 4 J J J (bC cr J J),
  ⟨d3 5 2 8 5 J J J J (OV (ht J) (ht J)),
  ⟨bZ 9 6 J J J (vx J),
  aS⟩⟩⟩⟩⟩⟩⟩⟩ ?_
 refine ax<|am ?_;cases so h;exact aH J J

theorem VJ(a1:ac)(b:ac){R:ac×Int}(h:vz a1 b=some R):aW aQ 274 [tD af a1,tD af b] (tT [tD af R.1,bN R.2]):=by
 refine aW.of Tryz.func274 J J J fun w0 S0=>aw<|zo J (js J)<|zo J (js J)<|aX (r:=af) (x:=iy) aI (fun _=>bk _) J fun b1=>zo J (cy)<|av<|aw<|zo J (bC aI J J)<|zo J (bC aI J J)<|zo J (aU (r:=af) (ys:=[a1,b]) (xs:=[.tmp 6,.tmp 7]) kC aI J J J J J ⟨(ht J),(ht J),aS⟩)<|bB h fun r q_r h=>zo J (aB Tj (Ji _ _ q_r) ⟨(zJ abc fun x y h=>Vl _ h),(ht J),aS⟩)<|zo J (gE J J)<|zo J (gE J J)<|aq aI J an J (ht J) (ht J)<|aV 4 J<|bq J<|av<|am ?_;cases so h;exact bQ J J ⟨bt aI J J J,aZ J,aS⟩

theorem V7{R:(List (Int×(ac→ac→Option (ac×Int))))}(h:zi=some R):aW aQ 183 [] (OH (fun y:(ac→ac→Option (ac×Int))=>zC aQ qK tE (fun(x:ac×ac)=>y x.1 x.2)) n9 R):=by
 refine aW.of Tryz.func183 J J J fun w0 S0=>aw<|zo J (aM (show aJ _ _ (.const (.map none)) (tV (.map none))from fun _ _ _=>J))<|av<|aw<|bB h fun r q_r h=>zo J (aB abH (VP _ q_r) ⟨(zJ Tn fun x y h=>Jm _ _ h),aS⟩)<|bq J<|av<|aw<|AO (xx (fun y:(ac→ac→Option (ac×Int))=>zC aQ qK tE (fun(x:ac×ac)=>y x.1 x.2))) n9 J fun b=>bB h fun r1 q_r1 h=>zo J (aB XO (Ps _ q_r1) ⟨(zJ abG fun x y h=>VO _ h),aS⟩)<|eM (γ:=(fun y:(ac→ac→Option (ac×Int))=>zC aQ qK tE (fun(x:ac×ac)=>y x.1 x.2))) (y:=r1) xI (d6 lk) (ht J) (oz hI) (o5 (ht J)) fun os=>bB h fun r2 q_r2 h=>zo J (aB XO (Ps _ q_r2) ⟨(zJ XN fun x y h=>Pr _ h),aS⟩)<|eM (γ:=(fun y:(ac→ac→Option (ac×Int))=>zC aQ qK tE (fun(x:ac×ac)=>y x.1 x.2))) (y:=r2) xI (d6 lk) (ht J) (oz hI) (o5 (ht J)) fun os1=>bB h fun r3 q_r3 h=>zo J (aB XM (Pq _ q_r3) ⟨hB,aS⟩) ?_;refine eM (γ:=(fun y:(ac→ac→Option (ac×Int))=>zC aQ qK tE (fun(x:ac×ac)=>y x.1 x.2))) (y:=r3) xI (d6 lk) (ht J) (oz hI) (o5 (ht J)) fun os2=>bB h fun r4 q_r4 h=>zo J (aB XM (Pq _ q_r4) ⟨hB,aS⟩)<|eM (γ:=(fun y:(ac→ac→Option (ac×Int))=>zC aQ qK tE (fun(x:ac×ac)=>y x.1 x.2))) (y:=r4) xI (d6 lk) (ht J) (oz hI) (o5 (ht J)) fun os3=>eM (γ:=(fun y:(ac→ac→Option (ac×Int))=>zC aQ qK tE (fun(x:ac×ac)=>y x.1 x.2))) (y:=CW) xI (d6 lk) (ht J) (oz hI) (o5 (zJ abF fun x y h=>VN _ _ h)) fun os4=>eM (γ:=(fun y:(ac→ac→Option (ac×Int))=>zC aQ qK tE (fun(x:ac×ac)=>y x.1 x.2))) (y:=v7) xI (d6 lk) (ht J) (oz hI) (o5 (zJ XL fun x y h=>Pp _ _ h)) fun os5=>eM (γ:=(fun y:(ac→ac→Option (ac×Int))=>zC aQ qK tE (fun(x:ac×ac)=>y x.1 x.2))) (y:=CU) xI (d6 lk) (ht J) (oz hI) (o5 (zJ abE fun x y h=>VM _ _ h)) fun os6=>eM (γ:=(fun y:(ac→ac→Option (ac×Int))=>zC aQ qK tE (fun(x:ac×ac)=>y x.1 x.2))) (y:=CV) xI (d6 lk) (ht J) (oz hI) (o5 (zJ abD fun x y h=>VL _ _ h)) fun os7=>eM (γ:=(fun y:(ac→ac→Option (ac×Int))=>zC aQ qK tE (fun(x:ac×ac)=>y x.1 x.2))) (y:=rP) xI (d6 lk) (ht J) (oz hI) (o5 (zJ XK fun x y h=>Po _ _ h)) fun os8=>bB h fun r5 q_r5 h=>zo J (aB Tm (Jl _ q_r5) ⟨(zJ XK fun x y h=>Po _ _ h),aS⟩)<|eM (γ:=(fun y:(ac→ac→Option (ac×Int))=>zC aQ qK tE (fun(x:ac×ac)=>y x.1 x.2))) (y:=r5) xI (d6 lk) (ht J) (oz hI) (o5 (ht J)) fun os9=>eM (γ:=(fun y:(ac→ac→Option (ac×Int))=>zC aQ qK tE (fun(x:ac×ac)=>y x.1 x.2))) (y:=oj) xI (d6 lk) (ht J) (oz hI) (o5 (zJ Tn fun x y h=>Jm _ _ h)) fun os10=>aG J<|eM (γ:=(fun y:(ac→ac→Option (ac×Int))=>zC aQ qK tE (fun(x:ac×ac)=>y x.1 x.2))) (y:=r) xI (d6 lk) (ht J) (oz hI) (o5 (ht J)) fun os11=>aG J<|bB h fun r6 q_r6 h=>zo J (aB Tm (Jl _ q_r6) ⟨(ht J),aS⟩)<|eM (γ:=(fun y:(ac→ac→Option (ac×Int))=>zC aQ qK tE (fun(x:ac×ac)=>y x.1 x.2))) (y:=r6) xI (d6 lk) (ht J) (oz hI) (o5 (ht J)) fun os12=>bB h fun r7 q_r7 h=>zo J (aB Tm (Jl _ q_r7) ⟨(zJ Tn fun x y h=>Jm _ _ h),aS⟩)<|eM (γ:=(fun y:(ac→ac→Option (ac×Int))=>zC aQ qK tE (fun(x:ac×ac)=>y x.1 x.2))) (y:=r7) xI (d6 lk) (ht J) (oz hI) (o5 (ht J)) fun os13=>eM (γ:=(fun y:(ac→ac→Option (ac×Int))=>zC aQ qK tE (fun(x:ac×ac)=>y x.1 x.2))) (y:=s9) xI (d6 lk) (ht J) (oz hI) (o5 (zJ abC fun x y h=>VK _ _ h)) fun os14=>eM (γ:=(fun y:(ac→ac→Option (ac×Int))=>zC aQ qK tE (fun(x:ac×ac)=>y x.1 x.2))) (y:=vz) xI (d6 lk) (ht J) (oz hI) (o5 (zJ abB fun x y h=>VJ _ _ h)) fun os15=>?_;refine aG J<|bq J<|av<|am<|Mu 0 J ?_;cases so h;exact aH J J

theorem Zc{l:Option Nat}{c:Nat}{xs s:List ac}{lo:Int}{R:List ac}(hs:dE xs lo (xs.length:Int)=some s)(h:fP s=some R):dd aQ 276 [tV (o4 4 l c lo.toNat s.length)] [fE af 46 l c xs] (fun i:OI=>sH (i.h 0).1 (i.h 0).2 R) (fun i=>[fE af 46 (i.h 0).1 (i.h 0).2 R,fE af 46 l c xs]):=by
 refine dd.of Tryz.func276 J J J fun w0 S0=>aw<|zo J (aM ud)<|av<|ah<|aw<|aG J<|HV (r:=af) kC (.head _) hs (ht J) J fun isnil hisnil=>av<|pu (ht J) (fun hc=>?_) (fun hc=>?_)
 ·have hx:=hisnil hc
  have h:some If=some R:=by simpa [fP,app,hx] using h
  refine aw<|bP false af 46<|zo J (aM ud)<|av<|am<|ae ?_;cases so h;exact nG J (oi none 0) J J (fun _ _ h=>h)
 ·refine dP<|aw<|ky (r:=af) (ys:=If) (xs:=[]) kC aI J J J J J trivial J fun l1 c1=>aG J<|bB h fun x q_x h=>Gd aI J J J J kC J J (ht J) (.tail _ (.head _)) hs (ht J) q_x fun l2 c2=>bq J<|av<|am ?_;cases so h;exact nG J (oi l2 c2) J J (fun _ _ h=>h)

theorem SS(b:Nat)(l:Option Nat)(c:Nat)(stack:(List ac))(k:Int){R:(List ac)×(List ac)}(h:k6 stack k=some R):dd aQ 275 [bN k,tV (aO b 0)] [bx rV 42 b (aT l c stack.length),fE af 46 l c stack] (fun i:OI=>bW (af) R.1) (fun i=>[bx rV 42 b (aT (i.h 0).1 (i.h 0).2 R.2.length),fE af 46 (i.h 0).1 (i.h 0).2 R.2]):=by
 refine dd.of Tryz.func275 J J J fun w0 S0=>aw<|zo J (aM (show aJ _ _ _ (bW (af) ([]))from kE))<|av<|aw<|zo J (ii Ir (.head _) (ht J))<|zo J (ii Ir (.head _) (ht J))<|zo J (jO kC (.tail _ (.head _)) (ht J))<|aG J<|zo J (iq (ht J) (ht J))<|bB h fun y q_y h=>zo J (ox kC aI J (.tail _ (.head _)) (ht J) (ht J) q_y)<|nl (.tail _ (.head _)) q_y fun hv=>bH<|bB h fun r q_r h=>B7 [fE af 46 l c stack] _ J abA (Zc q_y q_r) ⟨(ht J),aS⟩ J fun i=>?_;refine(show RG _ _ _ _ [fE af 46 (i.h 0).1 (i.h 0).2 r,fE af 46 l c stack,bx rV 42 b (aT l c stack.length)] _ from ?_);refine bq J<|av<|aw<|zo J (ii Ir (.tail _ (.tail _ (.head _))) (ht J))<|zo J (ii Ir (.tail _ (.tail _ (.head _))) (ht J))<|zo J (jO kC (.tail _ (.head _)) (ht J))<|aG J<|zo J (iq (ht J) (ht J))<|bB h fun y1 q_y1 h=>zo J (ly kC aI J (.tail _ (.head _)) (ht J) (ht J) q_y1)<|bH<|xc q_y1<|il<|aq Ir J an J (ht J) (QK (ht J))<|av<|aw<|aG J<|bq J<|av ?_;refine am<|aL<|jQ<|cG 3 J<|cG 11 J<|cG 4 J<|cG 18 J<|jR 3 J<|bf<|bD<|bD ?_;cases so h;exact nG J (oi l c) J J (fun _ _ h=>h)

end Go.Proofs.YtfhhakidodmdfaaGreatDoor

