/- du of this claim: P0. -/
import Derived.Test.YthbdkceckjihgaaGreatDoorBbT
import Derived.Test.YthbdkceckjihgaaGreatDoorBbF
set_option linter.all false
namespace Go.Proofs.YthbdkceckjihgaaGreatDoor
open Go
abbrev aP:=rI .i64
abbrev mU:=JQ (fun y:Bool=>im y)
abbrev Dy:=fun(x:aC)=>[H br x]
abbrev HX:=fun(x:aW×Int)=>tT [H ac x.1,bd x.2]
noncomputable abbrev UO:=gV aZ Dy HX (fun(x:aC)=>cb x)
abbrev HS:=(⟨(0:Int),(0:Int),(0:Int),[]⟩:cJ)
abbrev yE:=fun(x:Bool)=>im x
abbrev Qt:=fun(mc:am) (mx:Bool)=>(gD mc mx).map fun mr=>(mr,mc)
abbrev tk:=(⟨[]⟩:aW)
abbrev sr:=(⟨[]⟩:dj)
abbrev E1:=(⟨[116],[]⟩:ef)
abbrev Jv:=fun(x:(List Int))=>pE x
abbrev Sf:=fun(x:ew×ew)=>[H aw x.1,H aw x.2]
abbrev Cs:=fun(x:ce)=>[H cG x]
abbrev ff:=Xa aP 3
abbrev Sb:=fun(x:f9×f9)=>[H aN x.1,H aN x.2]
noncomputable abbrev Se:=gV aZ Sb yE (fun(x:f9×f9)=>jf x.1 x.2)
abbrev xK:=fun(x:Bool)=>[im x]
abbrev E3:=fun(x:cd)=>[H cZ x]
abbrev F5:=(⟨[],[],[],[],(0:Int)⟩:bu)
abbrev AK:=fun(x:cS)=>H rS x
abbrev mi:=(-1:Int)
abbrev F4:=(⟨[],[],(0:Int)⟩:cu)
noncomputable abbrev Sd:=gV aZ Sf yE (fun(x:ew×ew)=>jg x.1 x.2)
abbrev Qw:=(⟨[97],(2:Int)⟩:cd)
abbrev Jz:=(⟨[],(2:Int),false⟩:tf)
abbrev Jy:=fun(x:Unit)=>([]:List Ty)
abbrev F3:=fun(x:Bool)=>H rB x
abbrev Sc:=(⟨[],[],tk,tk,false,false,[],[],[]⟩:aL)
abbrev w9:=([]:List Int)
abbrev UN:=fun(x:aL×aL)=>[H bm x.1,H bm x.2]
abbrev Dx:=eO aP
abbrev Qv:=fun(x:(List Int))=>H Dx x
abbrev UM:=fun(x:aC×(List Int))=>[H br x.1,pE x.2]
abbrev Jx:=fun(x:Int)=>bd x
abbrev uJ:=kvI .i64
abbrev XT:=fun(x:aC×(List Int))=>[H br x.1,H Dx x.2]
abbrev UL:=fun(x:Int×Int)=>tT [bd x.1,bd x.2]
abbrev XH:=(⟨[98],(3:Int)⟩:cd)
abbrev XS:=(⟨[116],[Qw,XH],[]⟩:ce)
abbrev Qu:=fun(x:Bool)=>[H rB x]
abbrev Sa:=fun(x:dl)=>[H dk x]
abbrev R9:=fun(x:fQ)=>[H d9 x]
abbrev UK:=J none 0 (([]:List aL).length)
abbrev XR:=fun(x:aW×aW)=>[H ac x.1,H ac x.2]
abbrev XQ:=fun(x:aW×Int)=>tT [H ac x.1,H aP x.2]
abbrev UJ:=J none 0 (([]:List vR).length)
abbrev UI:=fun(x:aQ)=>[H bh x]
abbrev XP:=fun(mc:am) (mx:Unit)=>iz mc
abbrev XO:=fun(mc:am) (mx:Unit)=>hZ mc
abbrev XN:=fun(mc:am) (mx:Unit)=>gp mc
abbrev XM:=fun(mc:am) (mx:Unit)=>ia mc
abbrev XL:=fun(mc:am) (mx:Unit)=>gq mc
abbrev XK:=fun(mc:am) (mx:Unit)=>jd mc
abbrev XJ:=fun(x:Int×Int)=>tT [H aP x.1,H aP x.2]
abbrev UH:=fun(x:dj)=>[H bI x]
abbrev Qs:=(⟨[]⟩:aR)
abbrev UG:=fun(x:f9)=>[H aN x]
abbrev Jw:=qr aP 2
abbrev E2:(Option Nat×Nat):=(none,0)
abbrev XI:=(⟨[117],[Qw],[]⟩:ce)
set_option maxRecDepth 100000

def PL c{R}(h:xl c=some R):cI aZ 131 [H (rI .i32) c] (im R):=by
 exact dm Tryz.func131 I<|aY<|bw<|bO<|aH I<|Q (fh (M I) hI)<|aX I<|ap I (da I)<|ap I (fun D=>kD (bF I D) hI)<|eV I<|be I<|so h▸aq I I

def Tl s v{R}(h:fC s v=some R):cI aZ 99 [fm (rS) s,H rS v] (bd R):=by
 refine dm Tryz.func99 I<|aY<|bG<|bO<|aT<|aX I<|bW qK I<|Q (bC hI)<|bO<|ai<|aO (k:=6) I fun hN=>bp ?_;refine ay (dz (h2:=fun ls i=>(s.drop i=ls)/\ec v ls i=some R) (Of:=fun _ i=>[]) (Gf:=fun _ i=>[(0,fm (rS) s),(1,H rS v),(7,iK s),(8,bd (i:Int))]) (fun i h=>?_) (fun e tl ih i h=>?_) s 0 ⟨I,h⟩) (bb I)
 ·obtain⟨A,h⟩:=h
  exact dh A I<|av<|aY<|dJ<|so h▸aq I I
 ·obtain⟨A,h⟩:=h
  refine dg A I<|aD<|ai<|aH I<|bj I<|aH I<|aX I<|aX I<|uC qK jG I (df A) ?_;refine cC jG I<|Q (fW (M I) (M I))<|bY h I (fun h=>?_) (fun h=>?_)
  ·exact aH I<|be I<|bZ<|af<|bZ<|so h▸aq I I
  ·refine bk<|cR A hN I ?_;exact aS (ay (ih (i+1) ⟨cM A,h⟩) (bb I))

def PS s v{R}(h:fM s v=some R):cI aZ 100 [fm (rS) s,H rS v] (im R):=by
 exact dm Tryz.func100 I<|aY<|bw<|bO<|aH I<|aX I<|eo h aaD (Tl _ _) (dd I) fun r h=>Q (fh (M I) hI)<|be I<|so h▸aq I I

def Wh s{R}(h:xX s=some R):cI aZ 132 [H rS s] (im R):=by
 exact dm Tryz.func132 I<|aY<|bw<|bO<|aY<|Q (Jo (r:=qr rS 28) (x:=Yi) gm1 gr1 (Q8 Tryz.underlying228 jG I Xe))<|aX I<|eo h XB (PS _ _) (dd I) fun r h=>be I<|so h▸aq I I

def Wg s{R}(h:kX s=some R):cI aZ 133 [H rS s] (H rS R):=by
 unfold kX at h
 split at h
 ·rename_i hl
  cases h
  refine Mn fun w hw=>?_
  have:=Any.strings_ToUpper_any wX upX ⟨s.toArray⟩ w (by rw [Qd];exact hl) hw.1 hw.2
  simp only [List.toList_toArray]at this
  exact this
 ·cases h

def Wf c{R}(h:Aj c=some R):cI aZ 134 [H (rI .i32) c] (im R):=by
 exact dm Tryz.func134 I<|aY<|bw<|bO<|aH I<|Q (fh (M I) hI)<|aX I<|ap I (da I)<|ap I (fun D=>kD (bF I D) hI)<|eV I<|be I<|so h▸aq I I

def zF s{R}(h:ma s=some R):cI aZ 89 [H rS s] (im R):=by
 refine dm Tryz.func89 I<|aY<|bw<|bO<|aT<|aX I<|Q (fW (M I) hS)<|aX I<|au I (da I)<|au I (fun D=>nQ gx (bF I D))<|au I (fun D=>fa (bF I D) hI)<|eu I<|aX I<|cq h fun t q_t h=>au I (da I) ?_
 obtain⟨b,h1t,h0t⟩:=og q_t
 have q_bg:=fun Y=>(h1t Y).1
 refine au I (fun D=>lM gx (bF I D) hI (q_bg D))<|au I (fun D=>U8 OM Tryz.underlying21 (bF I D)) ?_
 obtain⟨r,h1t⟩:=UA (fun Y=>(h1t Y).2)
 have q_rg:=fun Y=>(h1t Y).1
 refine au I (fun D=>bn Xt (PL _ (q_rg D)) ⟨(bF I D),d⟩)<|au I (sy I)<|Q (cV (M I) (fun Y=>(bF I (nR Y))) (fun Y=>(h1t Y).2) h0t)<|aX I<|cq h fun t1 q_t1 h=>au I (da I) ?_
 obtain⟨r1,h1t1,h0t1⟩:=og q_t1
 have q_r1g:=fun Y=>(h1t1 Y).1
 refine au I (fun D=>bn abt (Wg _ (q_r1g D)) ⟨(bF I D),d⟩) ?_
 obtain⟨r2,h1t1⟩:=UA (fun Y=>(h1t1 Y).2)
 have q_r2g:=fun Y=>(h1t1 Y).1
 refine au I (fun D=>bn abu (Wh _ (q_r2g D)) ⟨(bF I D),d⟩)<|Q (cV (M I) (fun Y=>(bF I (nR Y))) (fun Y=>(h1t1 Y).2) h0t1)<|bY h I (fun h=>?_) (fun h=>?_)
 ·exact aY<|bw<|cw<|af<|so h▸aq I I
 ·refine gC<|aT<|aX I<|Mp gx (M I) I fun rg=>bO<|ai<|bp ?_;refine ay (Zp (β:=Int×Int) (h2:=fun ls=>qx ls=some R) (Of:=fun ls=>[H1 rg s ls]) (Gf:=[(25,tV (an rg 0))]) (fun ls h ih=>?_) (Li s) h) (bb I);refine dX<|aY ?_;refine Ol (M I) I (fun hl=>?_) (fun e tl hk=>?_)
  ·subst hl
   exact Q (JO (M I))<|bO<|aD<|qB (M I) I<|eY<|aI<|aI<|cW<|av<|aY<|bw<|cw<|aM<|so h▸aq I I
  ·subst hk
   refine Q (A8 (i:=0) I (M I))<|bO<|aD<|qA (M I) I<|gC<|ai<|aY<|Q (A8 (i:=2) I (M I))<|bj I<|aH I<|eo h abs (Wf _) (dd I) fun r3 h=>Q (fV (M I))<|aX I<|cq h fun t2 q_t2 h=>ap I (da I) ?_
   obtain⟨r4,h1t2,h0t2⟩:=og q_t2
   have q_r4g:=fun Y=>(h1t2 Y).1
   refine ap I (fun D=>bn Xt (PL _ (q_r4g D)) ⟨(bF I D),d⟩)<|ap I (sy I)<|Q (bJ (M I) (fun Y=>(bF I Y)) (fun Y=>(h1t2 Y).2) h0t2)<|aX I<|ap I (da I)<|ap I (tN I)<|eV I<|bY h I (fun h=>?_) (fun h=>?_)
   ·exact aY<|bw<|cw<|bZ<|bZ<|aM<|so h▸aq I I
   ·refine bk<|bq ?_;exact aS (ay (ih tl (by simp) h) (bb I))

def VP s f{R}(h:gM s f=some R):cI aZ 203 [fm (cZ) s,(gV aZ E3 yE (fun(x:cd)=>f x))] (bd R):=by
 refine dm Tryz.func203 I<|aY<|bG<|bO<|aT<|aX I<|bW p8 I<|Q (bC hI)<|bO<|ai<|aO (k:=6) I fun hN=>bp ?_;refine ay (dz (h2:=fun ls i=>(s.drop i=ls)/\dn f ls i=some R) (Of:=fun _ i=>[]) (Gf:=fun _ i=>[(0,fm (cZ) s),(1,(gV aZ E3 yE (fun(x:cd)=>f x))),(7,iK s),(8,bd (i:Int))]) (fun i h=>?_) (fun e tl ih i h=>?_) s 0 ⟨I,h⟩) (bb I)
 ·obtain⟨A,h⟩:=h
  exact dh A I<|av<|aY<|dJ<|so h▸aq I I
 ·obtain⟨A,h⟩:=h
  refine dg A I<|aD<|ai<|aH I<|bj I<|aH I<|aX I<|aX I<|uC p8 kl I (df A) ?_;refine cC kl I<|cq h fun r q_r h=>Q (iE (args:=E3) (res:=F3) (f:=(fun(x:cd)=>f x)) (x:=((e):cd)) (M I) q_r ⟨(M I),d⟩)<|bY h I (fun h=>?_) (fun h=>?_)
  ·exact aH I<|be I<|bZ<|af<|bZ<|so h▸aq I I
  ·refine bk<|cR A hN I ?_;exact aS (ay (ih (i+1) ⟨cM A,h⟩) (bb I))

def VO of name p{R}(h:fS of name p=some R):cI aZ 204 [H cZ p,bt (rT ((gV aZ E3 AK (fun(x:cd)=>of x)))) (),bt rS name] (im R):=by
 refine dm Tryz.func204 I<|aY<|cK I<|bw<|bO<|aD<|cq h fun r q_r h=>?_
 refine eI (ts:=[_,_,_,_,_,_]) mixed I I
  ⟨ug 1 I I (qu ZQ (M I)),
  ⟨ug 3 I I (qN kl I I),
  ⟨fg 5 0 6 1 I I I (iE (args:=E3) (res:=AK) (f:=(fun(x:cd)=>of x)) (x:=((p):cd)) (M I) q_r ⟨(M I),d⟩),
  ⟨ug 2 I I (qN jG I I),
  ⟨fg 7 2 8 3 I I I (fW (M I) (M I)),
  ⟨ga 9 4 I I (AW I),
  d⟩⟩⟩⟩⟩⟩ ?_
 exact av<|wY<|so h▸aq I I

def V5 l of name{R}(h:kS l of name=some R):cI aZ 162 [fm (cZ) l,(gV aZ E3 AK (fun(x:cd)=>of x)),H rS name] (tT [bd R.1,im R.2]):=by
 refine dm Tryz.func162 I<|aY<|Q (Pg (M I))<|cK I<|bG<|bw<|bO<|aH I<|Q ((show cE _ _ _ _ ((gV aZ E3 yE (fun(x:cd)=>(fS of name) x)))from pf (cts:=[bt (rT ((gV aZ E3 AK (fun(x:cd)=>of x)))) (),bt rS name]) (caps:=[.tmp 4,.tmp 5]) aaY ⟨(M I),(M I),d⟩ (fun x y h=>VO _ _ _ h)))<|eo h aaZ (VP _ _) (dd I) fun r h=>bj I<|aH I<|Q (FB (M I) hI)<|aX I<|Q (fh (M I) hI) ?_;exact gE I<|be I<|so h▸cX I I I

def Wk l of{R}(h:nr l of=some R):cI aZ 126 [fm (cZ) l,(gV aZ E3 AK (fun(x:cd)=>of x))] (im R):=by
 refine dm Tryz.func126 I<|aY<|bw<|bO<|aT<|aX I<|bW p8 I<|Q (bC hI)<|bO<|ai<|aO (k:=9) I fun hN=>bp ?_;refine ay (dz (h2:=fun ls i=>(l.drop i=ls)/\gS l of ls i=some R) (Of:=fun _ i=>[]) (Gf:=fun _ i=>[(0,fm (cZ) l),(1,(gV aZ E3 AK (fun(x:cd)=>of x))),(9,fm (cZ) l),(10,iK l),(11,bd (i:Int))]) (fun i h=>?_) (fun e tl ih i h=>?_) l 0 ⟨I,h⟩) (bb I)
 ·obtain⟨A,h⟩:=h
  exact dh A I<|av<|aY<|bw<|cw<|so h▸aq I I
 ·obtain⟨A,h⟩:=h
  refine dg A I<|aD<|ai<|aH I<|dE p8 kl I (df A)<|aV kl oq I fun b=>gE I<|bL kl aj I<|aK 6 I<|bO<|aD ?_;refine aJ<|aX I<|aX I<|aX I<|cC kl I<|cq h fun r q_r h=>Q (iE (args:=E3) (res:=AK) (f:=(fun(x:cd)=>of x)) (x:=((e):cd)) (M I) q_r ⟨(M I),d⟩)<|eo h abi (V5 _ _ _) (dd I) fun r1 h=>aX I<|cY I I<|cY I I<|gE I<|bj I<|aH I<|aX I<|Q (dZ (M I) (M I))<|aX I<|cq h fun t q_t h=>au I (da I) ?_;refine au I (fun D=>qN kl I I) ?_
  obtain⟨r2,h1t,h0t⟩:=og q_t
  have q_r2g:=fun Y=>(h1t Y).1
  refine au I (fun D=>iE (args:=E3) (res:=AK) (f:=(fun(x:cd)=>of x)) (x:=((e):cd)) (bF I D) (q_r2g D) ⟨(bF I D),d⟩) ?_
  obtain⟨r3,h1t⟩:=UA (fun Y=>(h1t Y).2)
  have q_r3g:=fun Y=>(h1t Y).1
  refine au I (fun D=>bn Mh (zF _ (q_r3g D)) ⟨(bF I D),d⟩)<|au I (sy I)<|Q (cV (M I) (fun Y=>(bF I (nR Y))) (fun Y=>(h1t Y).2) h0t)<|bY h I (fun h=>?_) (fun h=>?_)
  ·exact aY<|bw<|cw<|bZ<|af<|bZ<|so h▸aq I I
  ·refine bk<|cR A hN I ?_;exact aS (ay (ih (i+1) ⟨cM A,h⟩) (bb I))

def Wj c{R}(h:fZ c=some R):cI aZ 127 [H cZ c] (H rS R):=by
 exact dm Tryz.func127 I<|aY<|cK I<|Q (cg hS)<|bO<|aY<|ba tA lF jG I<|be I<|so h▸aq I I

def Wi kind{R}(h:va kind=some R):cI aZ 128 [bd kind] (H rS R):=by
 refine dm Tryz.func128 I<|aY<|Q (cg hS)<|bO<|aT<|Q (Jo (r:=(qr z8 3)) (x:=Yj) gm0 gr0 (fJ ZO I I Xe))<|Q (bC hI)<|bO<|ai<|bp ?_;refine ay (Kz (h2:=fun k i=>(3-i=k)/\ld kind k i=some R) (Of:=fun _ i=>[]) (Gf:=fun _ i=>[(0,bd kind),(5,H (qr z8 3) Yj),(6,bd (i:Int))]) (fun i h=>?_) (fun k1 ih i h=>?_) 3 0 ⟨I,h⟩) (bb I)
 ·obtain⟨A,h⟩:=h
  exact dX<|aY<|Q (eP (M I) hI)<|bO<|aD<|qB (M I) (Rd A)<|eY<|aI<|aI<|cW<|av<|aY<|Q (cg hS)<|cw<|so h▸aq I I
 ·obtain⟨A,h⟩:=h
  refine dX<|aY<|Q (eP (M I) hI)<|bO<|aD<|qA (M I) (Rc A)<|gC<|aD<|ai<|aY<|cq h fun e1 q_e1 h=>Q (xj Tryz.underlying227 Sl I I (M I) (M I) q_e1)<|aV Sl UF I fun b=>bL Sl aj I<|aK 4 I<|bO<|aY<|oK Vl Rt I ?_;refine cC cF I<|aX I<|Q (mg (M I) (M I))<|bY h I (fun h=>?_) (fun h=>?_)
  ·exact aY<|ba Vm Ru jG I<|be I<|bZ<|af<|bZ<|so h▸aq I I
  ·refine bk<|bq<|av<|aJ<|Q (wl (Nz A (by decide)) (M I) hI)<|aX I<|bz ?_;exact aS (ay (ih (i+1) ⟨Ny A,h⟩) (bb I))

def Yv t{R}(h:n6 t=some R):cI aZ 84 [H cG t] (bd R):=by
 refine dm Tryz.func84 I<|aY<|cK I<|bG<|bO<|aY<|ba Aq sR jG I<|eo h Mh (zF _) (dd I) fun r h=>aX I<|ap I (bR kR fY I I)<|ap I (bM q9 I I)<|ap I (kA p8 I)<|ap I (fun D=>fh (bF I D) hI)<|eV I<|aX I<|ap I (bR kR fY I I)<|ap I (bM q9 I I)<|ap I (kA p8 I)<|ap I (fun D=>kD (bF I D) hI) ?_;refine eV I<|aX I<|cq h fun t1 q_t1 h=>ap I (bR kR fY I I)<|ap I (bM q9 I I) ?_
 obtain⟨r1,h1t1,h0t1⟩:=og q_t1
 have q_r1g:=fun Y=>(h1t1 Y).1
 refine ap I (fun D=>bn aby (Wk _ _ (q_r1g D)) ⟨(bF I D),(UE abx fun x y h=>Wj _ h),d⟩)<|Q (bJ (M I) (fun Y=>(bF I Y)) (fun Y=>(h1t1 Y).2) h0t1)<|bj I<|aT<|ba kR fY q9 I<|bW p8 I<|Q (bC hI)<|bO<|ai<|aO (k:=29) I fun hN=>bp ?_;refine ay (j8 (h2:=fun ls i ok=>(t.Columns.drop i=ls)/\iB t ls ok=some R) (Of:=fun _ i ok=>[]) (Gf:=fun _ i ok=>[(1,bt cG t),(3,im ok),(29,fm (cZ) t.Columns),(30,iK t.Columns),(31,bd (i:Int))]) (fun i ok h=>?_) (fun e tl ih i ok h=>?_) t.Columns 0 t1 ⟨I,h⟩) (bb I)
 ·obtain⟨A,h⟩:=h
  refine dh A I<|av<|aT<|ba u4 pn fL I<|bW fH I<|Q (bC hI)<|bO<|ai<|aO (k:=44) I fun hN1=>?_;refine bp ?_;refine ay (j8 (h2:=fun ls1 i1 ok1=>(t.Keys.drop i1=ls1)/\gB t ls1 i1 ok1=some R) (Of:=fun _ i1 ok1=>[]) (Gf:=fun _ i1 ok1=>[(1,bt cG t),(3,im ok1),(44,pE t.Keys),(45,iK t.Keys),(46,bd (i1:Int))]) (fun i1 ok1 h=>?_) (fun e1 tl1 ih1 i1 ok1 h=>?_) t.Keys 0 ok ⟨I,h⟩) (bb I)
  ·obtain⟨hx1,h⟩:=h
   refine dh hx1 I<|av<|aT<|aX I<|Q (fV (M I))<|bY h I (fun h=>?_) (fun h=>?_)
   ·exact aY<|dJ<|af<|so h▸aq I I
   ·exact gC<|aY<|dJ<|so h▸aq I I
  ·obtain⟨hx1,h⟩:=h
   refine dg hx1 I<|aD<|ai<|aH I<|dE fH cF I (df hx1)<|gE I<|bj I<|aJ<|aX I<|aX I ?_;refine ap I (da I)<|ap I (fun D=>fh (bF I D) hI)<|eV I<|aX I<|ap I (da I)<|ap I (bR kR fY I I)<|ap I (bM q9 I I)<|ap I (kA p8 I)<|ap I (fun D=>eP (bF I D) (bF I D))<|eV I<|aX I<|cq h fun t2 q_t2 h=>ap I (da I)<|ap I (mV I)<|ap I (q7 I) ?_
   obtain⟨t3,h1t2,h0t2⟩:=og q_t2
   have q_t3g:=fun Y=>(h1t2 Y).1
   refine ft I I I I (fun D=>oJ u4 pn I I)<|ft I I I I (fun D=>fJ fL I I (bF I D))<|ft I I I I (fun D=>gH I)<|ft I I I I (fun D=>fv (bF I D) hI) ?_
   obtain⟨e2,h1t3,h0t3⟩:=Yd q_t3g
   have q_e2g:=fun Y=>(h1t3 Y).1
   refine ft I I I I (fun D=>ev fH cF I (bF I D) (bF I D) (q_e2g D))<|ft I I I I (fun D=>fJ cF I I (bF I D))<|ft I I I I (fun D=>gH I)<|ft I I I I (fun D=>eP (bF I D) (bF I D))<|ap I (fun D=>cV (bF I D) (fun Y=>(bF I (si D (nR Y)))) (fun Y=>(h1t3 (si D Y)).2) (fun Y=>h0t3 D Y))<|Q (bJ (M I) (fun Y=>(bF I Y)) (fun Y=>(h1t2 Y).2) h0t2)<|gE I<|bz<|cR hx1 hN1 I ?_;exact aS (ay (ih1 (i1+1) t2 ⟨cM hx1,h⟩) (bb I))
 ·obtain⟨A,h⟩:=h
  refine dg A I<|aD<|ai<|aY<|dE p8 kl I (df A)<|aV kl oq I fun b=>bL kl aj I<|aK 5 I<|bO<|aJ<|aX I<|aX I ?_;refine cq h fun t4 q_t4 h=>ap I (bR FJ wx I I)<|ap I (bM cF I I) ?_
  obtain⟨r2,h1t4,h0t4⟩:=og q_t4
  have q_r2g:=fun Y=>(h1t4 Y).1
  refine ap I (fun D=>bn abw (Wi _ (q_r2g D)) ⟨(bF I D),d⟩)<|ap I (fun D=>wk (bF I D) hS)<|Q (bJ (M I) (fun Y=>(bF I Y)) (fun Y=>(h1t4 Y).2) h0t4)<|gE I<|bz<|cR A hN I ?_;exact aS (ay (ih (i+1) t4 ⟨cM A,h⟩) (bb I))

def Yw t{R}(h:mu t=some R):cI aZ 83 [H cG t] (im R):=by
 exact dm Tryz.func83 I<|aY<|cK I<|bw<|bO<|aY<|cC kM I<|eo h acm (Yv _) (dd I) fun r h=>gW I<|be I<|so h▸aq I I

def PN s f{R}(h:dK s f=some R):cI aZ 129 [fm (cG) s,(gV aZ Cs yE (fun(x:ce)=>f x))] (bd R):=by
 refine dm Tryz.func129 I<|aY<|bG<|bO<|aT<|aX I<|bW sF I<|Q (bC hI)<|bO<|ai<|aO (k:=6) I fun hN=>bp ?_;refine ay (dz (h2:=fun ls i=>(s.drop i=ls)/\ca f ls i=some R) (Of:=fun _ i=>[]) (Gf:=fun _ i=>[(0,fm (cG) s),(1,(gV aZ Cs yE (fun(x:ce)=>f x))),(7,iK s),(8,bd (i:Int))]) (fun i h=>?_) (fun e tl ih i h=>?_) s 0 ⟨I,h⟩) (bb I)
 ·obtain⟨A,h⟩:=h
  exact dh A I<|av<|aY<|dJ<|so h▸aq I I
 ·obtain⟨A,h⟩:=h
  refine dg A I<|aD<|ai<|aH I<|bj I<|aH I<|aX I<|aX I<|uC sF kM I (df A) ?_;refine cC kM I<|cq h fun r q_r h=>Q (iE (args:=Cs) (res:=F3) (f:=(fun(x:ce)=>f x)) (x:=((e):ce)) (M I) q_r ⟨(M I),d⟩)<|bY h I (fun h=>?_) (fun h=>?_)
  ·exact aH I<|be I<|bZ<|af<|bZ<|so h▸aq I I
  ·refine bk<|cR A hN I ?_;exact aS (ay (ih (i+1) ⟨cM A,h⟩) (bb I))

def Yu s f{R}(h:gF s f=some R):cI aZ 85 [fm (cG) s,(gV aZ Cs yE (fun(x:ce)=>f x))] (im R):=by
 exact dm Tryz.func85 I<|aY<|bw<|bO<|aH I<|aX I<|eo h Xv (PN _ _) (dd I) fun r h=>Q (fh (M I) hI)<|be I<|so h▸aq I I

def V4 of name p{R}(h:eC of name p=some R):cI aZ 163 [H cG p,bt (rT ((gV aZ Cs AK (fun(x:ce)=>of x)))) (),bt rS name] (im R):=by
 refine dm Tryz.func163 I<|aY<|cK I<|bw<|bO<|aD<|cq h fun r q_r h=>?_
 refine eI (ts:=[_,_,_,_,_,_]) mixed I I
  ⟨ug 1 I I (qu ZS (M I)),
  ⟨ug 3 I I (qN kM I I),
  ⟨fg 5 0 6 1 I I I (iE (args:=Cs) (res:=AK) (f:=(fun(x:ce)=>of x)) (x:=((p):ce)) (M I) q_r ⟨(M I),d⟩),
  ⟨ug 2 I I (qN jG I I),
  ⟨fg 7 2 8 3 I I I (fW (M I) (M I)),
  ⟨ga 9 4 I I (AW I),
  d⟩⟩⟩⟩⟩⟩ ?_
 exact av<|wY<|so h▸aq I I

def PM l of name{R}(h:hY l of name=some R):cI aZ 130 [fm (cG) l,(gV aZ Cs AK (fun(x:ce)=>of x)),H rS name] (tT [bd R.1,im R.2]):=by
 refine dm Tryz.func130 I<|aY<|Q (Pg (M I))<|cK I<|bG<|bw<|bO<|aH I<|Q ((show cE _ _ _ _ ((gV aZ Cs yE (fun(x:ce)=>(eC of name) x)))from pf (cts:=[bt (rT ((gV aZ Cs AK (fun(x:ce)=>of x)))) (),bt rS name]) (caps:=[.tmp 4,.tmp 5]) abh ⟨(M I),(M I),d⟩ (fun x y h=>V4 _ _ _ h)))<|eo h Xv (PN _ _) (dd I) fun r h=>bj I<|aH I<|Q (FB (M I) hI)<|aX I<|Q (fh (M I) hI) ?_;exact gE I<|be I<|so h▸cX I I I

def Yt l of{R}(h:n5 l of=some R):cI aZ 86 [fm (cG) l,(gV aZ Cs AK (fun(x:ce)=>of x))] (im R):=by
 refine dm Tryz.func86 I<|aY<|bw<|bO<|aT<|aX I<|bW sF I<|Q (bC hI)<|bO<|ai<|aO (k:=9) I fun hN=>bp ?_;refine ay (dz (h2:=fun ls i=>(l.drop i=ls)/\ik l of ls i=some R) (Of:=fun _ i=>[]) (Gf:=fun _ i=>[(0,fm (cG) l),(1,(gV aZ Cs AK (fun(x:ce)=>of x))),(9,fm (cG) l),(10,iK l),(11,bd (i:Int))]) (fun i h=>?_) (fun e tl ih i h=>?_) l 0 ⟨I,h⟩) (bb I)
 ·obtain⟨A,h⟩:=h
  exact dh A I<|av<|aY<|bw<|cw<|so h▸aq I I
 ·obtain⟨A,h⟩:=h
  refine dg A I<|aD<|ai<|aH I<|dE sF kM I (df A)<|aV kM zd I fun b=>gE I<|bL kM aj I<|aK 6 I<|bO<|aD ?_;refine aJ<|aX I<|aX I<|aX I<|cC kM I<|cq h fun r q_r h=>Q (iE (args:=Cs) (res:=AK) (f:=(fun(x:ce)=>of x)) (x:=((e):ce)) (M I) q_r ⟨(M I),d⟩)<|eo h Xu (PM _ _ _) (dd I) fun r1 h=>aX I<|cY I I<|cY I I<|gE I<|bj I<|aH I<|aX I<|Q (dZ (M I) (M I))<|aX I<|cq h fun t q_t h=>au I (da I) ?_;refine au I (fun D=>qN kM I I) ?_
  obtain⟨r2,h1t,h0t⟩:=og q_t
  have q_r2g:=fun Y=>(h1t Y).1
  refine au I (fun D=>iE (args:=Cs) (res:=AK) (f:=(fun(x:ce)=>of x)) (x:=((e):ce)) (bF I D) (q_r2g D) ⟨(bF I D),d⟩) ?_
  obtain⟨r3,h1t⟩:=UA (fun Y=>(h1t Y).2)
  have q_r3g:=fun Y=>(h1t Y).1
  refine au I (fun D=>bn Mh (zF _ (q_r3g D)) ⟨(bF I D),d⟩)<|au I (sy I)<|Q (cV (M I) (fun Y=>(bF I (nR Y))) (fun Y=>(h1t Y).2) h0t)<|bY h I (fun h=>?_) (fun h=>?_)
  ·exact aY<|bw<|cw<|bZ<|af<|bZ<|so h▸aq I I
  ·refine bk<|cR A hN I ?_;exact aS (ay (ih (i+1) ⟨cM A,h⟩) (bb I))

def Tn t{R}(h:eH t=some R):cI aZ 87 [H cG t] (H rS R):=by
 exact dm Tryz.func87 I<|aY<|cK I<|Q (cg hS)<|bO<|aY<|ba Aq sR jG I<|be I<|so h▸aq I I

def YX c{R}(h:tF c=some R):cI aZ 38 [H bK c] (bd R):=by
 refine dm Tryz.func38 I<|aY<|cK I<|bG<|bO<|aY<|Q (cg (show bf _ _ _ ((gV aZ Cs yE (fun(x:ce)=>mu x)))from(UE acn fun x y h=>Yw _ h)))<|bO<|aT<|ba nk eK vV I<|bW sF I<|Q (fa (M I) hI)<|aX I<|cq h fun t q_t h=>au I (bR nk eK I I)<|au I (bM vV I I)<|au I (da I) ?_
 obtain⟨r,h1t,h0t⟩:=og q_t
 have q_rg:=fun Y=>(h1t Y).1
 refine au I (fun D=>bn acl (Yu _ _ (q_rg D)) ⟨(bF I D),(bF I D),d⟩)<|Q (cV (M I) (fun Y=>(bF I (nR Y))) (fun Y=>(h1t Y).2) h0t)<|aX I<|cq h fun t1 q_t1 h=>au I (bR nk eK I I)<|au I (bM vV I I) ?_
 obtain⟨r1,h1t1,h0t1⟩:=og q_t1
 have q_r1g:=fun Y=>(h1t1 Y).1
 refine au I (fun D=>bn ack (Yt _ _ (q_r1g D)) ⟨(bF I D),(UE aaF fun x y h=>Tn _ h),d⟩)<|au I (sy I)<|Q (cV (M I) (fun Y=>(bF I (nR Y))) (fun Y=>(h1t1 Y).2) h0t1)<|bY h I (fun h=>?_) (fun h=>?_)
 ·exact aY<|dJ<|af<|so h▸aq I I
 ·exact gC<|aY<|dJ<|so h▸aq I I

def Tm n{R}(h:vL n=some R):cI aZ 88 [bd n] (im R):=by
 exact dm Tryz.func88 I<|aY<|bw<|bO<|aH I<|Q (fh (M I) hI)<|aX I<|ap I (da I)<|ap I (fun D=>kD (bF I D) hI)<|eV I<|be I<|so h▸aq I I

def We s f{R}(h:gL s f=some R):cI aZ 135 [fm (bh) s,(gV aZ UI yE (fun(x:aQ)=>f x))] (bd R):=by
 refine dm Tryz.func135 I<|aY<|bG<|bO<|aT<|aX I<|bW wL I<|Q (bC hI)<|bO<|ai<|aO (k:=6) I fun hN=>bp ?_;refine ay (dz (h2:=fun ls i=>(s.drop i=ls)/\dO f ls i=some R) (Of:=fun _ i=>[]) (Gf:=fun _ i=>[(0,fm (bh) s),(1,(gV aZ UI yE (fun(x:aQ)=>f x))),(7,iK s),(8,bd (i:Int))]) (fun i h=>?_) (fun e tl ih i h=>?_) s 0 ⟨I,h⟩) (bb I)
 ·obtain⟨A,h⟩:=h
  exact dh A I<|av<|aY<|dJ<|so h▸aq I I
 ·obtain⟨A,h⟩:=h
  refine dg A I<|aD<|ai<|aH I<|bj I<|aH I<|aX I<|aX I<|uC wL qO I (df A) ?_;refine cC qO I<|cq h fun r q_r h=>Q (iE (args:=UI) (res:=F3) (f:=(fun(x:aQ)=>f x)) (x:=((e):aQ)) (M I) q_r ⟨(M I),d⟩)<|bY h I (fun h=>?_) (fun h=>?_)
  ·exact aH I<|be I<|bZ<|af<|bZ<|so h▸aq I I
  ·refine bk<|cR A hN I ?_;exact aS (ay (ih (i+1) ⟨cM A,h⟩) (bb I))

end Go.Proofs.YthbdkceckjihgaaGreatDoor

