/- cP of this claim: P0. -/
import Derived.Test.YtfhhakidodmdfaaGreatDoorJgT
import Derived.Test.YtfhhakidodmdfaaGreatDoorJgF
set_option linter.all false
namespace Go.Proofs.YtfhhakidodmdfaaGreatDoor
open Go
abbrev XG:=fun(mc:aE) (mx:aj)=>(fR mc mx).map fun mr=>(mr,mc)
abbrev XF:=fun(mc:aE) (mx:aj)=>(gN mc mx).map fun mr=>(mr,mc)
abbrev XK:=fun(mc:aE) (mx:aj)=>(fS mc mx).map fun mr=>(mr,mc)
abbrev XH:=fun(mc:aE) (mx:aj)=>(gy mc mx).map fun mr=>(mr,mc)
abbrev XL:=fun(mc:aE) (mx:aj)=>(fq mc mx).map fun mr=>(mr,mc)
abbrev XM:=fun(mc:aE) (mx:aj)=>(eV mc mx).map fun mr=>(mr,mc)
abbrev XJ:=fun(mc:aE) (mx:aj)=>(gw mc mx).map fun mr=>(mr,mc)
abbrev XI:=fun(mc:aE) (mx:aj)=>(gx mc mx).map fun mr=>(mr,mc)
abbrev LU:=dj (dj (dj (dj (dj (dj (dj (dj ([]:List (Int×(aE→aj→Option (((List Int)×Bool)×aE)))) (1:Int) XG) (2:Int) XF) (3:Int) XK) (4:Int) XH) (5:Int) XL) (6:Int) XM) (7:Int) XJ) (8:Int) XI
abbrev Xy:=fun(mc:cS) (mx:aj)=>(kU mc mx).map fun mr=>(mr,mc)
abbrev Xx:=fun(mc:cS) (mx:aj)=>(jI mc mx).map fun mr=>(mr,mc)
abbrev XC:=fun(mc:cS) (mx:aj)=>(jB mc mx).map fun mr=>(mr,mc)
abbrev Xz:=fun(mc:cS) (mx:aj)=>(jd mc mx).map fun mr=>(mr,mc)
abbrev XD:=fun(mc:cS) (mx:aj)=>(jb mc mx).map fun mr=>(mr,mc)
abbrev XE:=fun(mc:cS) (mx:aj)=>(iF mc mx).map fun mr=>(mr,mc)
abbrev XB:=fun(mc:cS) (mx:aj)=>(ko mc mx).map fun mr=>(mr,mc)
abbrev XA:=fun(mc:cS) (mx:aj)=>(kp mc mx).map fun mr=>(mr,mc)
abbrev QN:=dj (dj (dj (dj (dj (dj (dj (dj ([]:List (Int×(cS→aj→Option (((List (List ac))×Int)×cS)))) (1:Int) Xy) (2:Int) Xx) (3:Int) XC) (4:Int) Xz) (5:Int) XD) (6:Int) XE) (7:Int) XB) (8:Int) XA
abbrev ig:=(⟨(0:Int),(0:Int),(0:Int),[]⟩:ac)
abbrev cY:=fV af
abbrev qx:=fun(x:ac×ac)=>[tD af x.1,tD af x.2]
abbrev s5:=fun(x:ac×Int)=>tT [tD af x.1,bM x.2]
abbrev pE:=fun(x:aj)=>[tD aF x]
abbrev zQ:=(⟨[]⟩:bG)
abbrev HO:=(⟨(0:Int),(0:Int),(0:Int),(0:Int),[],false,zQ,[],[],[],[],(0:Int)⟩:aj)
abbrev cd:=rI .i64
abbrev D9:=fun(x:(List ac)×(List ac))=>[ca (af) x.1,ca (af) x.2]
abbrev oV:=fun(x:(List Int)×Bool)=>tT [mv x.1,iR x.2]
abbrev nH:=fun(x:Bool)=>iR x
abbrev qy:=fun(x:(List (List ac))×Int)=>tT [ca (cY) x.1,bM x.2]
abbrev s6:=(-1:Int)
abbrev LT:=(⟨(1:Int),(0:Int),(0:Int),[]⟩:ac)
abbrev XN:=(⟨(1:Int),s6,s6,(0:Int),LT⟩:bo)
abbrev Dp:=fun(x:ac×Int)=>tT [tD af x.1,tD cd x.2]
abbrev dO:=fV cY
abbrev AP:=fun(x:ac)=>[tD af x]
abbrev y6:=fun(x:Int)=>bM x
abbrev wW:=(⟨[]⟩:bc)
abbrev uN:=ca (cY) ([])
abbrev nN:=kvI .i64
abbrev QM:=(⟨(0:Int),(0:Int),(0:Int),(0:Int),ig⟩:bo)
abbrev u7:=([]:List Int)
abbrev Tx:=fun(x:bo×(List ac))=>[tD bJ x.1,ca (af) x.2]
abbrev Tw:=fun(x:(List ac)×(List ac))=>[tD cY x.1,tD cY x.2]
abbrev Tv:=fun(x:bo×(List ac))=>[tD bJ x.1,tD cY x.2]
abbrev HS:=fun(x:Bool)=>tD rB x
abbrev Tt:=fun(x:bo×(List Int))=>[tD bJ x.1,mv x.2]
abbrev HR:=([]:List (List ac))
abbrev Jw:=fun(x:Int)=>[bM x]
abbrev xp:=fV cd
abbrev Xw:=fun(x:bo×(List Int))=>[tD bJ x.1,tD xp x.2]
abbrev Ts:=fun(x:Int×Int)=>tT [bM x.1,bM x.2]
abbrev HQ:=([]:List ac)
abbrev QL:=fun(x:gG)=>[tD gI x]
abbrev xq:=mv ([])
abbrev QK:=(⟨(1:Int),zQ⟩:gS)
abbrev Xv:=fun(x:Int×Int)=>tT [tD cd x.1,tD cd x.2]
abbrev Pu:=([]:List (List Int))
abbrev Xu:=(⟨[XN]⟩:bG)
abbrev Tq:=fun(x:Int)=>tD cd x
abbrev Xt:=(81,tD (tz rB 2) ([false,true]))
abbrev Tp:=(⟨[],[]⟩:ie)
abbrev Xs:=(⟨(0:Int),zQ⟩:gS)
abbrev HP:=rI .u64
abbrev To:=([]:List aj)
abbrev Xr:=(13,bK cj Xu)
set_option maxRecDepth 100000

theorem UX(s:(List Int))(f:(Int→Option Bool)){R:Int}(h:lw s f=some R):aX aQ 321 [mv s,(dX aQ Jw nH (fun(x:Int)=>f x))] (bM R):=by
 refine aX.of Tryz.func321 J J J fun w0 S0=>aw<|zo J (cD)<|av<|ah<|aw<|aG J<|zo J (jg gT J)<|zo J (bI hI)<|av<|aA<|be (k:=6) J fun hN=>bL ?_;refine aU (eI (Z:=fun ls i=>(s.drop i=ls)∧fy f ls i=some R) (Of:=fun _ i=>[]) (Gf:=fun _ i=>[(0,mv s),(1,(dX aQ Jw nH (fun(x:Int)=>f x))),(7,jz s),(8,bM (i:Int))]) (fun i h=>?_) (fun e tl ih i h=>?_) s 0 ⟨J,h⟩) (bu J)
 ·obtain⟨hx,h⟩:=h
  refine aB<|aw<|zo J (fM J J)<|av<|ah<|bz (ht J) (du hx)<|bv ?_;refine ai (ai (aO ?_));refine ax<|aw<|zo rfl (cD)<|av<|am ?_;cases so h;exact aJ J J
 ·obtain⟨hx,h⟩:=h
  refine aB<|aw<|zo J (fM J J)<|av<|ah<|bw (ht J) (di hx)<|dS<|ah<|aA<|aw<|aG J<|bp J<|av<|aw<|aG J<|aG J<|aG J<|zo J (my gT cx J J J (da hx)) ?_;refine zo J (bB cx J J)<|bC h fun r q_r h=>zo J (gZ (args:=(fun(x:Int)=>[tD cd x])) (res:=HS) (f:=(fun(x:Int)=>f x)) (x:=((e):Int)) (ht J) q_r ⟨(ht J),aT⟩)<|av<|cU h J (fun h=>?_) (fun h=>?_)
  ·refine aw<|aG J<|bp J<|av<|am ?_;refine aD (ae (ae (aD (ae ?_))));cases so h;exact aJ J J
  ·refine bA<|aq<|ax<|au<|zo rfl (mz (cM hx hN) rfl)<|aG rfl<|aP ?_;exact bm (aU (ih (i+1) ⟨cL hx,h⟩) (bu J))

theorem DM(s:(List Int))(f:(Int→Option Bool)){R:Bool}(h:cB s f=some R):aX aQ 258 [mv s,(dX aQ Jw nH (fun(x:Int)=>f x))] (iR R):=by
 refine aX.of Tryz.func258 J J J fun w0 S0=>aw<|zo J (jL)<|av<|aw<|aG J<|aG J<|bC h fun r q_r h=>zo J (aC aaU (UX _ _ q_r) ⟨(ht J),(ht J),aT⟩)<|zo J (jq (ht J) hI)<|bp J<|av<|am ?_;cases so h;exact aJ J J

theorem U4(k:Int){R:Bool}(h:C4 k=some R):aX aQ 280 [bM k] (iR R):=by
 refine aX.of Tryz.func280 J J J fun w0 S0=>aw<|zo J (jL)<|av<|aw<|aG J<|zo J (nI J)<|aG J<|gz J J (fun hg=>dl J)<|gz J J (fun hg=>dH (bN J hg) hI)<|zo J (xo J J)<|aG J<|gz J J (fun hg=>dl J)<|gz J J (fun hg=>dH (bN J hg) hI)<|zo J (xo J J)<|bp J<|av<|am ?_;cases so h;exact aJ J J

theorem U5(k:Int){R:Bool}(h:js k=some R):aX aQ 279 [bM k] (iR R):=by
 refine aX.of Tryz.func279 J J J fun w0 S0=>aw<|zo J (jL)<|av<|aw<|aG J<|bC h fun r q_r h=>zo J (aC aa1 (U4 _ q_r) ⟨(ht J),aT⟩)<|zo J (gh (ht J))<|bp J<|av<|am ?_;cases so h;exact aJ J J

theorem YO(b:Nat)(ix:OI)(c:aE)(n:aj){R:(List Int)×Bool}(h:fR c n=some R):cX aQ 202 [tV (aN b 0),tD aF n] (dw b c ix) (fun _:OI=>tT [mv R.1,iR R.2]) (fun _=>(dw b c ix)):=by
 refine cX.of Tryz.func202 J J J fun w0 S0=>?_;refine(show CG _ _ _ [bx (rH bn [(1,aR (ix.h 0).1 (ix.h 0).2 c.kinds.length),(2,aR (ix.h 1).1 (ix.h 1).2 c.first.length)]) 115 b c,dT nP 39 (ix.h 0).1 (ix.h 0).2 c.kinds,dT cd 3 (ix.h 1).1 (ix.h 1).2 c.first] _ from ?_);refine aw<|zo J (jm J)<|zo J (aM (show aI _ _ _ xq from jQ))<|zo J (jL)<|av<|aw<|zo J (aM (show aI _ _ _ ((dX aQ Jw nH (fun(x:Int)=>js x)))from(zC aa2 fun x y h=>U5 _ h)))<|av<|aw<|zo J (df uX mR J J)<|zo J (bB cx J J)<|zo J (jq (ht J) hI)<|aG J<|dQ J J (fun hg=>df uX mR J J)<|dQ J J (fun hg=>bO cx J J (bN J hg))<|dQ J J (fun hg=>gi (bN J hg) hI)<|zo J (u6 J J)<|aG J<|dQ J J (fun hg=>df uW om J J) ?_;refine dQ J J (fun hg=>bO d9 J J (bN J hg))<|dQ J J (fun hg=>cW gT (bN J hg))<|dQ J J (fun hg=>jq (bN J hg) hI)<|zo J (u6 J J)<|aG J<|dQ J J (fun hg=>df uW om J J)<|dQ J J (fun hg=>bO d9 J J (bN J hg))<|dQ J J (fun hg=>cW gT (bN J hg))<|dQ J J (fun hg=>n9 (bN J hg) hI)<|zo J (u6 J J)<|bp J<|av<|ah<|bC h fun t q_t h=>?_
 obtain⟨r,h1t,h0t⟩:=og q_t
 have q_rg:=fun hb=>(h1t hb).1
 refine c9 (ts:=[_,_,_,_,_,_,_,_,_,_,_,_]) mixed J J
  ⟨eM 3 J J J (df uW om J J),
  ⟨bY 28 0 J J J (bB d9 J J),
  ⟨eM 7 J J J (dl J),
  ⟨bY 30 2 J J J (dl J),
  ⟨s7 3 31 3 J J J J (fd J J J J (fun hg=>df uW om J J)),
  ⟨lL 32 4 31 3 J J J J (fd J J J J (fun hg=>bO d9 J J (bN J hg))),
  ⟨s7 6 31 3 J J J J (fd J J J J (fun hg=>dl J)),
  ⟨wI 33 5 34 6 31 3 J J J J J (fd J J J J (fun hg=>aC O9 (DM _ _ (q_rg hg)) ⟨(bN J hg),(bN J hg),aT⟩)),
  ⟨lL 35 7 31 3 J J J J (fd J J J J (fun hg=>gh (bN J hg))),
  ⟨d8 31 3 36 8 J J J J (fQ (ht J) (fun hb=>(bN J hb)) (fun hb=>(h1t hb).2) h0t),
  ⟨bY 29 1 J J J (u8 J),
  ⟨bY 37 9 J J J (u8 J),
  aT⟩⟩⟩⟩⟩⟩⟩⟩⟩⟩⟩⟩ ?_
 refine ax<|am<|aK<|aK<|aK ?_;cases so h;exact d6 (ts:=[mv n.Kinds,iR t]) (rvs:=[.tmp 4,.tmp 5]) J J ⟨aZ J,aZ J,aT⟩ pS J J

theorem R8(n:Int){R:(List Int)}(h:lH n=some R):fZ aQ 343 [tV (.slice none 0 0),bM n] false cd 3 R:=by
 refine fZ.of Tryz.func343 J J J fun w0 S0=>aw<|bQ false cd 3<|zo J (aM tJ)<|av ?_;refine sX (Z:=mC n=some R) (Of:=[]) (Gf:=[(0,tV (.slice none 0 0)),(1,bM n)]) (fun h=>?_) (fun K=>?_)
 ·skip
  refine yX (Z:=fun s l c=>mB s=some R) (Of:=fun s l c=>[fj cd 3 l c s]) (Gf:=fun s l c=>[(0,sb l c s)]) (fun s l c h=>?_) (fun K1=>?_)
  ·skip
   refine aw<|aG J<|bp J<|av<|am ?_;cases so h;exact gn J J
  ·skip
   refine aw<|aG J<|aG J<|zo J (sQ gT (ht J))<|aG J<|zo J (sP gT (ht J))<|zo J (iQ (ht J) (ht J))<|zo J (iQ (ht J) (ht J))<|bp J<|av<|aw<|aG J<|zo J (gv (ht J) hI)<|av<|cU h J (fun h=>?_) (fun h=>?_)
   ·refine au<|aG J<|aG J<|zo J (sQ gT (ht J))<|zo J (xM gT cx (ht J) (ht J))<|aG J<|bC h fun u q_u h=>bC h fun mk q_mk h=>Ar (xZ (r:=cd) (x:=(0:Int)) cx J J J J gT kY (fun _=>J) (ht J) (ht J) (Fg q_u) q_mk) J fun i=>aG J<|zo J (sP gT (ht J))<|bC h fun y q_y h=>zo J (lh gT cx J (.head _) (ht J) (ht J) q_y)<|wD q_y<|bp J<|aP ?_;exact cw (K1 y (i.h 0).1 (i.h 0).2 h) (bu J)
   ·refine bA<|F1 false cd 3 ?_;exact cw (K1 u7 none 0 h) (bu J)
 ·skip
  refine aw<|aG J<|zo J (gi (ht J) hI)<|av<|cU h J (fun h=>?_) (fun h=>?_)
  ·refine au ?_;exact(nn h).elim
  ·refine bA<|ba ?_;exact cw (K h) (bu J)
theorem R9(slices:(List (List Int))){R:(List Int)}(h:iT slices=some R):fZ aQ 281 [ca (nP) slices] false cd 3 R:=by
 refine fZ.of Tryz.func281 J J J fun w0 S0=>aw<|bQ false cd 3<|zo J (aM tJ)<|av<|aw<|zo J (cD)<|av<|ah<|aw<|aG J<|zo J (jg vQ J)<|zo J (bI hI)<|av<|aA<|be (k:=9) J fun hN=>bL<|rm ?_;refine aU (oz (Z:=fun ls i size=>(slices.drop i=ls)∧jj slices ls size=some R) (Of:=fun _ i size=>[]) (Gf:=fun _ i size=>[(0,ca (nP) slices),(3,bM size),(9,ca (nP) slices),(10,jz slices),(11,bM (i:Int))]) (fun i size h=>?_) (fun e tl ih i size h=>?_) slices 0 (0:Int) ⟨J,h⟩) (bu J)
 ·obtain⟨hx,h⟩:=h
  refine aB<|aw<|zo J (fM J J)<|av<|ah<|bz (ht J) (du hx)<|bv ?_;refine ai (ai (aO ?_));refine ax<|aw<|aG rfl<|bC h fun r q_r h=>iy aaE (R8 _ q_r) ⟨hV,(ht J),aT⟩ J fun l c=>bp J<|av<|ah<|aw<|aG J<|zo J (jg vQ J)<|zo J (bI hI)<|av<|aA<|be (k:=25) J fun hN1=>bL ?_;refine aU (jW (Z:=fun ls1 i1 newslice l1 c1=>(slices.drop i1=ls1)∧ji ls1 newslice=some R) (Of:=fun _ i1 newslice l1 c1=>[fj cd 3 l1 c1 newslice]) (Gf:=fun _ i1 newslice l1 c1=>[(6,sb l1 c1 newslice),(25,ca (nP) slices),(26,jz slices),(27,bM (i1:Int))]) (fun i1 newslice l1 c1 h=>?_) (fun e1 tl1 ih1 i1 newslice l1 c1 h=>?_) slices 0 r l c ⟨J,h⟩) (bu J)
  ·obtain⟨hx1,h⟩:=h
   refine aB<|aw<|zo J (fM J J)<|av<|ah<|bz (ht J) (du hx1)<|bv ?_;refine ai (ai (aO ?_));refine ax<|aw<|aG rfl<|bp rfl<|av<|am ?_;cases so h;exact gn J J
  ·obtain⟨hx1,h⟩:=h
   refine aB<|aw<|zo J (fM J J)<|av<|ah<|bw (ht J) (di hx1)<|dS<|ah<|aA<|aw<|zo J (my vQ d9 J J J (da hx1))<|zo J (bB d9 J J)<|bp J<|av<|au<|aG J<|aG J<|bC h fun newslice1 q_newslice1 h=>cT cx J J J J gT J J (ht J) (ht J) q_newslice1 fun l2 c2=>?_;refine bp J<|aP<|aq<|ax<|au<|zo rfl (mz (cM hx1 hN1) rfl)<|aG rfl<|aP ?_;exact bm (aU (ih1 (i1+1) newslice1 l2 c2 ⟨cL hx1,h⟩) (bu J))
 ·obtain⟨hx,h⟩:=h
  refine aB<|aw<|zo J (fM J J)<|av<|ah<|bw (ht J) (di hx)<|dS<|ah<|aA<|aw<|zo J (my vQ d9 J J J (da hx))<|zo J (bB d9 J J)<|bp J<|av<|aw<|aG J<|aG J<|zo J (jg gT J) ?_;refine zo J (oa (ht J) (ht J))<|bp J<|av<|aw<|aG J<|zo J (gi (ht J) hI)<|av<|cU h J (fun h=>?_) (fun h=>?_)
  ·refine au ?_;exact(nn h).elim
  ·refine bA<|aq<|ax<|au<|zo rfl (mz (cM hx hN) rfl)<|aG rfl<|aP ?_;exact bm (aU (ih (i+1) (IntKind.i64.wrap (size+(e.length:Int))) ⟨cL hx,h⟩) (bu J))
theorem U3(slices:(List (List Int))){R:(List Int)}(h:iT slices=some R):aX aQ 281 [ca (nP) slices] (mv R):=(R9 _ h).spec

theorem DN(tag:Int){R:Int}(h:pC tag=some R):aX aQ 213 [bM tag] (bM R):=by
 refine aX.of Tryz.func213 J J J fun w0 S0=>aw<|zo J (cD)<|av<|ah<|aA<|aw<|aG J<|zo J (nI J)<|aG J<|gz J J (fun hg=>dl J)<|gz J J (fun hg=>dH (bN J hg) hI)<|zo J (xo J J)<|bp J<|av<|cU h J (fun h=>?_) (fun h=>?_)
 ·refine aw<|zo J (cD)<|av<|am ?_;refine aD (ae ?_);cases so h;exact aJ J J
 ·refine aw<|aG J<|zo J (jq (ht J) hI)<|aG J<|dQ J J (fun hg=>dl J)<|dQ J J (fun hg=>n9 (bN J hg) hI)<|zo J (u6 J J)<|bp J<|av<|cU h J (fun h=>?_) (fun h=>?_)
  ·refine aw<|zo J (cD)<|av<|am ?_;refine aD (ae ?_);cases so h;exact aJ J J
  ·refine aw<|aG J<|zo J (jq (ht J) hI)<|aG J<|dQ J J (fun hg=>dl J)<|dQ J J (fun hg=>n9 (bN J hg) hI)<|zo J (u6 J J)<|bp J<|av<|cU h J (fun h=>?_) (fun h=>?_)
   ·refine aw<|zo J (cD)<|av<|am ?_;refine aD (ae ?_);cases so h;exact aJ J J
   ·refine bA<|aq<|ax<|aw<|zo rfl (cD)<|av<|am ?_;cases so h;exact aJ J J

theorem Vq(v:ac){R:ac}(h:xv v=some R):aX aQ 191 [tD af v] (tD af R):=by
 refine aX.of Tryz.func191 J J J fun w0 S0=>aw<|wE (ht J) J fun b=>aW (r:=af) (x:=ig) aH (fun _=>bj _) J fun b1=>av<|ah<|aw<|zo J (jN 0 hZ J J J)<|zo J (cg cx J J cQ (.tail _ (.head _)) (ht J))<|av ?_;refine HH (Z:=fun v1=>ky v1=some R) (Of:=fun v1=>[bx af 46 b v1,bx af 46 b1 ig]) (Gf:=fun v1=>[(1,tV (aN b 0)),(2,tV (aN b1 0))]) (fun v1 h=>?_) (fun K=>?_)
 ·skip
  refine ax<|aw<|zo rfl (cg aH rfl rfl bT (.head _) (ht rfl))<|bF<|ap aH rfl an rfl (ht rfl) (ht rfl)<|aV 2 rfl<|av<|am<|ba ?_;cases so h;exact iX J aH J J J
 ·skip
  refine ah<|aA<|ah<|aA<|ah ?_;refine HH (Z:=fun v2=>p5 v2=some R) (Of:=fun v2=>[bx af 46 b v2,bx af 46 b1 ig]) (Gf:=fun v2=>[(1,tV (aN b 0)),(2,tV (aN b1 0))]) (fun v2 h=>?_) (fun K1=>?_)
  ·skip
   refine ax<|aw<|zo rfl (jN 0 hZ rfl rfl rfl)<|ap cx rfl mD rfl (ht rfl) hI<|av<|bv ?_;refine cm J (ai (cm J (ai (aO ?_))));exact cw (K (ac.mk (0:Int) v2.N v2.U v2.S) h) (bu J)
  ·skip
   refine ah ?_;refine HI (Z:=pZ v=some R) (Of:=[bx af 46 b v,bx af 46 b1 ig]) (Gf:=[(1,tV (aN b 0)),(2,tV (aN b1 0))]) (fun h=>?_) (fun K2=>?_)
   ·skip
    refine ax<|au<|zo rfl (jN 1 lY rfl rfl rfl)<|ap F8 rfl pp rfl (ht rfl) hI<|aP<|aq ?_;exact cw (K1 (ac.mk v.Kind (0:Int) v.U v.S) h) (bu J)
   ·skip
    refine ah<|aA<|ah<|ah<|aw<|zo J (nI J)<|bp J<|av<|cU h J (fun h=>?_) (fun h=>?_)
    ·refine bv ?_;refine ai (ai (aO ?_));refine ax<|aw<|zo rfl (jN 1 lY rfl rfl rfl)<|zo rfl (cg F8 rfl rfl ft (.tail _ (.head _)) (ht rfl))<|zo rfl (s4 rfl)<|aG rfl<|dQ rfl rfl (fun hg=>jN 1 lY J J J)<|dQ J J (fun hg=>cg F8 J J ft (.tail _ (.head _)) (bN J hg))<|dQ J J (fun hg=>fe (bN J hg) hI)<|zo J (u6 J J)<|av<|cU h J (fun h=>?_) (fun h=>?_)
     ·refine bv ?_;refine cm J (ai (cm J (ai (cm J (ai (cm J (ai (aO ?_))))))));refine bD ?_;exact cw (K v h) (bu J)
     ·refine bA<|aq<|bD ?_;exact cw (K2 h) (bu J)
    ·refine dS<|ah<|aw<|zo J (nI J)<|bp J<|av<|cU h J (fun h=>?_) (fun h=>?_)
     ·refine bv ?_;refine ai (ai (cm J (ai (aO ?_))));refine bD ?_;exact cw (K2 h) (bu J)
     ·refine dS<|ah<|aw<|zo J (nI J)<|bp J<|av<|cU h J (fun h=>?_) (fun h=>?_)
      ·refine bv ?_;refine ai (ai (cm J (ai (cm J (ai (aO ?_))))));refine bD ?_;exact cw (K1 v h) (bu J)
      ·refine dS<|ah<|aw<|zo J (nI J)<|bp J<|av<|cU h J (fun h=>?_) (fun h=>?_)
       ·refine bv ?_;refine ai (ai (cm J (ai (cm J (ai (cm J (ai (aO ?_))))))));refine ax ?_;refine kw (Z:=fun v3=>pY v3=some R) (Of:=fun v3=>[bx af 46 b v3,bx af 46 b1 ig]) (Gf:=fun v3=>[(1,tV (aN b 0)),(2,tV (aN b1 0))]) (fun v3 h=>?_) (fun K3=>?_)
        ·skip
         refine bv ?_;refine cm J (ai (aO ?_));exact cw (K v3 h) (bu J)
        ·skip
         refine aw<|zo J (jN 3 xX J J J)<|zo J (cg TE J J oh (.tail _ (.head _)) (ht J))<|zo J (Iz CR (ht J))<|zo J (n9 (ht J) hI)<|av<|cU h J (fun h=>?_) (fun h=>?_)
         ·refine au<|zo J (jN 0 hZ J J J)<|bF<|ap cx J mD J (ht J) hI<|zo J (jN 3 xX J J J)<|ap TE J Mg J (ht J) hS<|aP ?_;exact cw (K3 (ac.mk (0:Int) v.N v.U ([])) h) (bu J)
         ·refine bA<|bD ?_;exact cw (K3 v h) (bu J)
       ·refine dS<|aw<|zo J (nI J)<|bp J<|av<|cU h J (fun h=>?_) (fun h=>?_)
        ·refine bv ?_;refine ai (cm J (ai (cm J (ai (cm J (ai (cm J (ai (aO ?_)))))))));refine ax<|aw<|zo rfl (jN 0 hZ rfl rfl rfl)<|bF<|ap cx rfl mD rfl (ht rfl) hI<|zo rfl (jN 1 lY rfl rfl rfl)<|ap F8 rfl pp rfl (ht rfl) hI<|zo rfl (jN 2 Cp rfl rfl rfl)<|ap Mc rfl zY rfl (ht rfl) hI<|av<|bv<|aO ?_;exact cw (K (ac.mk (0:Int) (0:Int) (0:Int) v.S) h) (bu J)
        ·refine dS<|bv ?_;refine cm J (ai (cm J (ai (cm J (ai (cm J (ai (cm J (ai (aO ?_))))))))));refine bD ?_;exact cw (K v h) (bu J)

theorem Bu(v:ac){R:Int}(h:k6 v=some R):aX aQ 111 [tD af v] (bM R):=by
 refine aX.of Tryz.func111 J J J fun w0 S0=>aw<|zo J (jm J)<|zo J (cD)<|av<|ah<|aw<|zo J (bB aH J J)<|bC h fun r q_r h=>zo J (aC aby (Vq _ q_r) ⟨(ht J),aT⟩)<|zo J (bU (y:=ig) aH qk bj (J))<|zo J (Ix Qh (ht J) (ht J))<|av<|cU h J (fun h=>?_) (fun h=>?_)
 ·refine aw<|zo J (cD)<|av<|am<|ae ?_;cases so h;exact aJ J J
 ·refine dS<|aw<|zo J (cD)<|av<|am ?_;cases so h;exact aJ J J

theorem DO(v:ac){R:Bool}(h:ml v=some R):aX aQ 182 [tD af v] (iR R):=by
 refine aX.of Tryz.func182 J J J fun w0 S0=>aw<|zo J (jm J)<|zo J (jL)<|av<|aw<|zo J (bB aH J J)<|bC h fun r q_r h=>zo J (aC Lo (Bu _ q_r) ⟨(ht J),aT⟩)<|zo J (nI J)<|aG J<|dQ J J (fun hg=>df hZ cQ J J)<|dQ J J (fun hg=>bO cx J J (bN J hg))<|dQ J J (fun hg=>fe (bN J hg) hI)<|zo J (u6 J J)<|bp J<|av<|am ?_;cases so h;exact aJ J J

theorem Vn(n:bo){R:Bool}(h:uE n=some R):aX aQ 214 [tD bJ n] (iR R):=by
 refine aX.of Tryz.func214 J J J fun w0 S0=>aw<|zo J (jm J)<|zo J (jL)<|av<|ah<|aw<|zo J (df ql iv J J)<|zo J (bB cx J J)<|av<|aA<|aw<|zo J (nI J)<|bp J<|av<|cU h J (fun h=>?_) (fun h=>?_)
 ·refine aw<|zo J (df Cn qT J J)<|zo J (bB aH J J)<|bC h fun r q_r h=>zo J (aC Pb (DO _ q_r) ⟨(ht J),aT⟩)<|aG J<|dQ J J (fun hg=>df Ag pz J J)<|dQ J J (fun hg=>bO cx J J (bN J hg))<|dQ J J (fun hg=>dH (bN J hg) hI)<|zo J (u6 J J)<|bp J<|av<|am ?_;refine aD (ae ?_);cases so h;exact aJ J J
 ·refine aw<|zo J (nI J)<|bp J<|av<|cU h J (fun h=>?_) (fun h=>?_)
  ·refine aw<|zo J (df Cn qT J J)<|zo J (bB aH J J)<|zo J (bU (y:=ig) aH qk bj (J))<|zo J (DD Qh (ht J) (ht J))<|aG J<|dQ J J (fun hg=>df Ag pz J J)<|dQ J J (fun hg=>bO cx J J (bN J hg))<|dQ J J (fun hg=>jq (bN J hg) hI)<|zo J (u6 J J)<|aG J<|dQ J J (fun hg=>df Ag pz J J)<|dQ J J (fun hg=>bO cx J J (bN J hg))<|dQ J J (fun hg=>gi (bN J hg) hI)<|zo J (u6 J J)<|bp J<|av<|am ?_;refine aD (ae ?_);cases so h;exact aJ J J
  ·refine bA<|aq<|ax<|aw<|zo rfl (df Cn qT rfl rfl)<|zo rfl (bB aH rfl rfl)<|zo rfl (bU (y:=ig) aH qk bj (J))<|zo J (DD Qh (ht J) (ht J))<|aG J<|dQ J J (fun hg=>df Ag pz J J)<|dQ J J (fun hg=>bO cx J J (bN J hg))<|dQ J J (fun hg=>dH (bN J hg) hI)<|zo J (u6 J J)<|bp J<|av<|am ?_;cases so h;exact aJ J J

theorem VO(e:bG){R:(List Int)×Bool}(h:xY e=some R):aX aQ 129 [tD cj e] (tT [mv R.1,iR R.2]):=by
 refine aX.of Tryz.func129 J J J fun w0 S0=>aw<|zo J (jm J)<|zo J (aM (show aI _ _ _ xq from jQ))<|zo J (jL)<|av<|aw<|bQ false cd 3<|zo J (aM tJ)<|bQ false cd 3<|zo J (aM tJ)<|av<|ah<|aw<|zo J (df qn lX J J)<|zo J (bB AU J J)<|zo J (jg vP J)<|zo J (bI hI)<|aP ?_;refine ax<|aA<|be (k:=15) J fun hN=>bL<|hU ?_;refine aU (LC (Z:=fun ls i all l c open1 l1 c1=>(e.Nodes.drop i=ls)∧kJ ls i all open1=some R) (Of:=fun _ i all l c open1 l1 c1=>[fj cd 3 l c all,fj cd 3 l1 c1 open1]) (Gf:=fun _ i all l c open1 l1 c1=>[(4,sb l c all),(5,sb l1 c1 open1),(15,ca (bJ) e.Nodes),(16,jz e.Nodes),(17,bM (i:Int))]) (fun i all l c open1 l1 c1 h=>?_) (fun e1 tl ih i all l c open1 l1 c1 h=>?_) e.Nodes 0 u7 none 0 u7 none 0 ⟨J,h⟩) (bu J)
 ·obtain⟨hx,h⟩:=h
  refine aB<|aw<|zo J (fM J J)<|av<|ah<|bz (ht J) (du hx)<|bv ?_;refine ai (ai (aO ?_));refine ax<|aw<|aG rfl<|aG rfl<|zo rfl (jA gT (.tail _ (.head _)) (ht rfl))<|zo rfl (nI rfl)<|aG rfl<|dQ rfl rfl (fun hg=>dl J)<|dQ J J (fun hg=>jA gT (.head _) (bN J hg))<|dQ J J (fun hg=>n9 (bN J hg) hI)<|zo J (u6 J J)<|bp J<|bp J<|av<|am<|jD<|cE 4 J<|cE 84 J<|cE 2 J<|jE 2 J<|ba<|ba ?_;cases so h;exact cC J J J
 ·obtain⟨hx,h⟩:=h
  refine aB<|aw<|zo J (fM J J)<|av<|ah<|bw (ht J) (di hx)<|dS<|ah<|aA<|aw<|aG J<|zo J (my vP oW J J J (da hx))<|zo J (bB oW J J)<|aW (r:=bJ) (x:=QM) oW (fun _=>s0 _) J fun b=>bp J<|ap oW J an J (ht J) (ht J)<|aV 7 J<|av<|ah ?_;refine au<|zo J (df ql iv J J)<|zo J (bB cx J J)<|bC h fun r q_r h=>zo J (aC Pa (DN _ q_r) ⟨(ht J),aT⟩)<|bp J<|av<|ah<|aw<|aG J<|zo J (gi (ht J) hI)<|aG J<|gz J J (fun hg=>dl J)<|gz J J (fun hg=>dl J)<|gz J J (fun hg=>jA gT (.tail _ (.head _)) (bN J hg))<|gz J J (fun hg=>gv (bN J hg) (bN J hg))<|zo J (xo J J)<|aG J<|bC h fun t q_t h=>gz J J (fun hg=>bB oW J J) ?_
  obtain⟨r1,h1t,h0t⟩:=og q_t
  have q_r1g:=fun hb=>(h1t hb).1
  refine gz J J (fun hg=>aC abl (Vn _ (q_r1g hg)) ⟨(bN J hg),aT⟩)<|gz J J (fun hg=>gh (bN J hg))<|zo J (kG (ht J) (fun hb=>(bN J (Ae hb))) (fun hb=>(h1t hb).2) h0t)<|av<|cU h J (fun h=>?_) (fun h=>?_)
  ·refine aw<|zo J (aM (show aI _ _ _ xq from jQ))<|zo J (jL)<|av<|am ?_;refine ae (aD (ae (ae (aD (ae ?_)))));refine ba<|ba ?_;cases so h;exact cC J J J
  ·refine dS<|aw<|aG J<|aG J<|zo J (jA gT (.tail _ (.head _)) (ht J))<|aG J<|zo J (iQ (ht J) (ht J))<|bC h fun y q_y h=>zo J (n8 gT cx J (.tail _ (.head _)) (ht J) (ht J) q_y)<|m7 (.tail _ (.head _)) q_y fun hv=>bp J<|av<|aw<|zo J (Ch (r:=cd) (ys:=[s6,s6]) (xs:=[.const (.int .i64 (-1)),.const (.int .i64 (-1))]) Tryz.underlying243 cx J JI J J ⟨hI,hI,aT⟩)<|aW (r:=(tz cd 2)) (x:=(List.replicate 2 (0:Int))) JI (fun _=>SW (r:=cd) 2 (fun _=>J) _) J fun b1=>ap JI J an J (ht J) (ht J)<|av<|aw ?_;refine aG J<|bp J<|av<|ah<|aw<|aG J<|zo J (T7 gT (.tail _ (.tail _ (.head _))) q_y (ht J))<|zo J (bI hI)<|av<|aA ?_
   have hN1:=hv.2
   refine bL<|q9<|q9 ?_;refine aU (vE (Z:=fun ls1 i1 first at1=>(y.drop i1=ls1)∧mb (kJ tl) i e1 all open1 r ls1 i1 first at1=some R) (Of:=fun _ i1 first at1=>[fj cd 3 l c all,fj cd 3 l1 c1 open1,bx (tz cd 2) 243 b1 at1]) (Gf:=fun _ i1 first at1=>[(4,sb l c all),(5,sb l1 c1 open1),(6,bM (i:Int)),(7,bK bJ e1),(8,bM r),(10,tV (aN b1 0)),(11,bM first),(15,ca (bJ) e.Nodes),(16,jz e.Nodes),(17,bM (i:Int)),(46,tV (oP 1 l1 c1 (IntKind.i64.wrap ((open1.length:Int)-r)).toNat y.length)),(47,jz y),(48,bM (i1:Int))]) (fun i1 first at1 h=>?_) (fun e2 tl1 ih1 i1 first at1 h=>?_) y 0 (i:Int) ([s6,s6]) ⟨J,h⟩) (bu J)
   ·obtain⟨hx1,h⟩:=h
    refine aB<|aw<|zo J (fM J J)<|av<|ah<|bz (ht J) (du hx1)<|bv ?_;refine ai (ai (aO ?_));refine ax<|ah<|aw<|zo rfl (cg JI rfl rfl bT (.tail _ (.tail _ (.head _))) (ht rfl))<|zo rfl (df Yn MX rfl rfl)<|zo rfl (bB cx rfl rfl)<|zo rfl (df Ym MW rfl rfl)<|zo rfl (bB cx rfl rfl)<|zo rfl (Ch (r:=cd) (ys:=[e1.L,e1.R]) (xs:=[.tmp 65,.tmp 67]) Tryz.underlying243 cx J JI J J ⟨(ht J),(ht J),aT⟩)<|zo J (Ix aak (ht J) (ht J))<|av<|cU h J (fun h=>?_) (fun h=>?_)
    ·refine aw<|zo J (aM (show aI _ _ _ xq from jQ))<|zo J (jL)<|av<|am ?_;refine ae (aD (ae (ae (aD (ae ?_)))));refine ba<|ba<|ba ?_;cases so h;exact cC J J J
    ·refine dS<|aw<|aG J<|aG J<|zo J (aS (r:=cd) (ys:=[first]) (xs:=[.tmp 71]) gT cx J J J J J ⟨(ht J),aT⟩)<|bC h fun all1 q_all1 h=>cT cx J J J J gT J J (ht J) (ht J) q_all1 fun l2 c2=>bp J<|av<|au<|aG J<|aG J<|zo J (jA gT (.tail _ (.head _)) (ht J))<|aG J<|zo J (iQ (ht J) (ht J))<|bC h fun y1 q_y1 h=>zo J (lh gT cx J (.tail _ (.head _)) (ht J) (ht J) q_y1)<|aG J<|zo J (aS (r:=cd) (ys:=[(i:Int)]) (xs:=[.tmp 80]) gT cx J J J J J ⟨(ht J),aT⟩)<|bF<|wD q_y1 ?_;refine bC h fun open2 q_open2 h=>cT cx J J J J gT J J (ht J) (ht J) q_open2 fun l3 c3=>bp J<|aP<|aq<|ax<|au<|zo rfl (mz (cM hx hN) rfl)<|aG rfl<|aP<|aK<|ba<|bD ?_;exact bm (aU (ih (i+1) all1 l2 c2 open2 l3 c3 ⟨cL hx,h⟩) (bu J))
   ·obtain⟨hx1,h⟩:=h
    refine aB<|aw<|zo J (fM J J)<|av<|ah<|bw (ht J) (di hx1)<|dS<|ah<|aA<|aw<|aG J<|zo J (Gl gT cx J (.tail _ (.head _)) q_y (ht J) (ht J) (da hx1))<|zo J (gq (r:=cd) (i:=((IntKind.i64.wrap ((open1.length:Int)-r))+(i1:Int))) (foff:=0) cx J J bT J (.tail _ (.head _)) (Ep q_y (da hx1)).1 (ht J))<|bp J<|bp J<|av<|bC h fun e3 q_e3 h=>bC h fun e4 q_e4 h=>bC h fun ar q_ar h=>?_
    refine o9 10 [tc (bM (i1:Int)),tc (bM e2),tc (bM first),tc (sb l c all),tc (bM e2),tc (tV (pU l (e2.toNat*1+0))),tc (bM e3),tc (bM (min first e3)),tc (tV (aN b1 ((i1:Int).toNat*1))),tc (Dq)] [false,false,false,false,false,false,false,false,false,true] [fun _=>[fj cd 3 l c all,fj cd 3 l1 c1 open1,bx (tz cd 2) 243 b1 at1],fun sg=>[bx (tz cd 2) 243 b1 ar,fj cd 3 l c all,fj cd 3 l1 c1 open1]] J mixed J J J J J
     ⟨⟨[⟨12,fun _=>tD cd (i1:Int),none⟩],_,0,0,J,⟨(fun _=>J),aT⟩,J,J,J,J,J,fun _ sg _ _=>ay J (dl J)⟩,
     ⟨⟨[⟨13,fun _=>tD cd e2,none⟩],_,0,0,J,⟨(fun _=>J),aT⟩,J,J,J,J,J,fun _ sg _ _=>ay J (dl J)⟩,
     ⟨⟨[⟨11,fun _=>tD cd first,none⟩],_,0,1,J,⟨(fun _=>J),aT⟩,J,J,J,J,J,fun _ sg _ _=>ay J (dl J)⟩,
     ⟨⟨[⟨4,fun _=>tV (aR l c all.length),none⟩],_,0,1,J,⟨(fun _=>J),aT⟩,J,J,J,J,J,fun _ sg _ _=>ay J (dl J)⟩,
     ⟨⟨[⟨13,fun _=>tD cd e2,none⟩],_,0,1,J,⟨(fun _=>J),aT⟩,J,J,J,J,J,fun _ sg _ _=>ay J (dl J)⟩,
     ⟨⟨[⟨56,fun _=>tV (aR l c all.length),some 3⟩,⟨57,fun _=>tD cd e2,some 4⟩],_,0,1,J,⟨(fun _=>J),(fun _=>J),aT⟩,J,J,J,J,J,F6 (fun sg=>ay J (cK gT cx (.head _) (ht J) (ht J) q_e3)) (zS (fun sg=>ay J (cK gT cx (.tail _ (.head _)) (ht J) (ht J) q_e3)))⟩,
     ⟨⟨[⟨58,fun _=>tV (pU l (e2.toNat*1+0)),some 5⟩],_,0,1,J,⟨(fun _=>J),aT⟩,J,J,J,J,J,F6 (fun sg=>ay J (gq (r:=cd) (i:=e2) (foff:=0) cx J J bT J (.head _) q_e3 (ht J))) (zS (fun sg=>ay J (gq (r:=cd) (i:=e2) (foff:=0) cx J J bT J (.tail _ (.head _)) q_e3 (ht J))))⟩,
     ⟨⟨[⟨55,fun _=>tD cd first,some 2⟩,⟨59,fun _=>tD cd e3,some 6⟩],_,0,1,J,⟨(fun _=>J),(fun _=>J),aT⟩,J,J,J,J,J,fun _ sg _ _=>ay J (N8 (ht J) (ht J))⟩,
     ⟨⟨[⟨10,fun _=>tV (aN b1 0),none⟩,⟨53,fun _=>tD cd (i1:Int),some 0⟩],_,0,0,J,⟨(fun _=>J),(fun _=>J),aT⟩,J,J,J,J,J,zS (fun sg=>ay J (Gk Tryz.underlying243 cx (.tail _ (.tail _ (.head _))) (ht J) (ht J) q_e4))⟩,
     ⟨⟨[⟨61,fun _=>tV (aN b1 ((i1:Int).toNat*1)),some 8⟩,⟨54,fun _=>tD cd e2,some 1⟩],_,J,⟨(fun _=>J),(fun _=>J),aT⟩,J,J,J,fun sg=>ei J (EffOK.fr2 (Nl cx J q_e4 (so q_ar) (ht J) (ht J)))⟩,
     aT⟩⟩⟩⟩⟩⟩⟩⟩⟩⟩ (fun sg=>?_)
    refine(show RG _ _ _ _ [bx (tz cd 2) 243 b1 ar,fj cd 3 l c all,fj cd 3 l1 c1 open1] _ from ?_);refine bp J<|aP<|aq<|ax<|au<|zo rfl (mz (cM hx1 hN1) rfl)<|aG rfl<|aP<|aK<|aK ?_;exact bm (aU (ih1 (i1+1) (min first e3) ar ⟨cL hx1,h⟩) (bu J))

end Go.Proofs.YtfhhakidodmdfaaGreatDoor

