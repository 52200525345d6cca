/- dm of this claim: P0. -/
import Derived.Test.YthbdkceckjihgaaGreatDoorBcT
import Derived.Test.YthbdkceckjihgaaGreatDoorBcF
set_option linter.all false
namespace Go.Proofs.YthbdkceckjihgaaGreatDoor
open Go
abbrev aP:=rI .i64
abbrev mW:=J1 (fun y:Bool=>iD y)
abbrev DE:=fun(x:aD)=>[Z bt x]
abbrev H1:=fun(x:aZ×Int)=>tT [Z ac x.1,bf x.2]
noncomputable abbrev UP:=jT bd DE H1 (fun(x:aD)=>ca x)
abbrev HV:=(⟨(0:Int),(0:Int),(0:Int),[]⟩:cJ)
abbrev QO:=fun(mc:am) (mx:Bool)=>(gA mc mx).map fun mr=>(mr,mc)
abbrev sx:=(⟨[]⟩:db)
abbrev th:=(⟨[]⟩:aZ)
abbrev E1:=(⟨[116],[]⟩:d7)
abbrev E0:=fun(x:Bool)=>iD x
abbrev JC:=fun(x:(List Int))=>qn x
abbrev Cy:=fun(x:bU)=>[Z cv x]
abbrev xS:=fun(x:Bool)=>[iD x]
abbrev fe:=Xd aP 3
abbrev E3:=fun(x:cb)=>[Z cQ x]
abbrev H0:=(⟨[],[],[],[],(0:Int)⟩:bz)
abbrev AS:=fun(x:cX)=>Z rS x
abbrev mg:=(-1:Int)
abbrev F3:=(⟨[],[],(0:Int)⟩:ce)
abbrev MX:=(⟨false,(⟨[],[]⟩:d7),sx⟩:mZ)
abbrev QR:=(⟨[97],(2:Int)⟩:cb)
abbrev JG:=(⟨[],(2:Int),false⟩:sC)
abbrev JF:=fun(x:Unit)=>([]:List Ty)
abbrev Sr:=(⟨[],[],th,th,false,false,[],[],[]⟩:bb)
abbrev xo:=([]:List Int)
abbrev DD:=eM aP
abbrev QQ:=fun(x:(List Int))=>Z DD x
abbrev UO:=fun(x:aD×(List Int))=>[Z bt x.1,qn x.2]
abbrev JE:=fun(x:Int)=>bf x
abbrev uQ:=kvI .i64
abbrev MW:=fun(x:Bool)=>Z rB x
abbrev XV:=fun(x:aD×(List Int))=>[Z bt x.1,Z DD x.2]
abbrev UN:=fun(x:Int×Int)=>tT [bf x.1,bf x.2]
abbrev XK:=(⟨[98],(3:Int)⟩:cb)
abbrev XU:=(⟨[116],[QR,XK],[]⟩:bU)
abbrev QP:=fun(x:Bool)=>[Z rB x]
abbrev Sq:=fun(x:dj)=>[Z dd x]
abbrev Sp:=fun(x:fK)=>[Z d5 x]
abbrev UM:=Y none 0 (([]:List bb).length)
abbrev XT:=fun(x:aZ×Int)=>tT [Z ac x.1,Z aP x.2]
abbrev UL:=Y none 0 (([]:List ze).length)
abbrev UK:=fun(x:aK)=>[Z aW x]
abbrev XS:=fun(mc:am) (mx:Unit)=>iu mc
abbrev XR:=fun(mc:am) (mx:Unit)=>g9 mc
abbrev XQ:=fun(mc:am) (mx:Unit)=>gh mc
abbrev XP:=fun(mc:am) (mx:Unit)=>hM mc
abbrev XO:=fun(mc:am) (mx:Unit)=>gi mc
abbrev XN:=fun(mc:am) (mx:Unit)=>iW mc
abbrev XM:=fun(x:Int×Int)=>tT [Z aP x.1,Z aP x.2]
abbrev UJ:=fun(x:db)=>[Z bD x]
abbrev QN:=(⟨[]⟩:aJ)
abbrev UI:=fun(x:lb)=>[Z aT x]
abbrev JD:=qD aP 2
abbrev KX:=eM dC
abbrev E2:(Option Nat×Nat):=(none,0)
abbrev XL:=(⟨[117],[QR],[]⟩:bU)
set_option maxRecDepth 100000

def Qf c{R}(h:xB c=some R):cN bd 131 [Z (rI .i32) c] (iD R):=by
 exact dp Tryz.func131 I<|aV<|bC<|bP<|aI I<|d (ff (M I) hI)<|aY I<|ax I (de I)<|ax I (fun V=>kr (bE I V) hI)<|eZ I<|bj I<|so h▸au I I

def Tx s v{R}(h:fB s v=some R):cN bd 99 [gb (rS) s,Z rS v] (bf R):=by
 refine dp Tryz.func99 I<|aV<|bF<|bP<|aR<|aY I<|bY tK I<|d (bB hI)<|bP<|ai<|aN (k:=6) I fun hN=>bp ?_;refine ay (dx (tD:=fun ls i=>(s.drop i=ls)/\ec v ls i=some R) (Of:=fun _ i=>[]) (Gf:=fun _ i=>[(0,gb (rS) s),(1,Z rS v),(7,iG s),(8,bf (i:Int))]) (fun i h=>?_) (fun e tl ih i h=>?_) s 0 ⟨I,h⟩) (a8 I)
 ·obtain⟨D,h⟩:=h
  exact dh D I<|aq<|aV<|dG<|so h▸au I I
 ·obtain⟨D,h⟩:=h
  refine dg D I<|aA<|ai<|aI I<|bh I<|aI I<|aY I<|aY I<|uH tK ja I (cW D) ?_;refine cM ja I<|d (fW (M I) (M I))<|bX h I (fun h=>?_) (fun h=>?_)
  ·exact aI I<|bj I<|bT<|af<|bT<|so h▸au I I
  ·refine bl<|cS D hN I ?_;exact aO (ay (ih (i+1) ⟨cO D,h⟩) (a8 I))

def Qm s v{R}(h:fN s v=some R):cN bd 100 [gb (rS) s,Z rS v] (iD R):=by
 exact dp Tryz.func100 I<|aV<|bC<|bP<|aI I<|aY I<|eg h aaP (Tx _ _) (da I) fun r h=>d (ff (M I) hI)<|bj I<|so h▸au I I

def Wh s{R}(h:yf s=some R):cN bd 132 [Z rS s] (iD R):=by
 exact dp Tryz.func132 I<|aV<|bC<|bP<|aV<|d (Ju (r:=qD rS 28) (x:=Ym) gm1 gr1 (Rs Tryz.underlying228 ja I Xh))<|aY I<|eg h XE (Qm _ _) (da I) fun r h=>bj I<|so h▸au I I

def Wg s{R}(h:kQ s=some R):cN bd 133 [Z rS s] (Z rS R):=by
 unfold kQ at h
 split at h
 ·rename_i hl
  cases h
  refine MC fun w hw=>?_
  have:=Any.strings_ToUpper_any xj upX ⟨s.toArray⟩ w (by rw [Qz];exact hl) hw.1 hw.2
  simp only [List.toList_toArray]at this
  exact this
 ·cases h

def Wf c{R}(h:Aw c=some R):cN bd 134 [Z (rI .i32) c] (iD R):=by
 exact dp Tryz.func134 I<|aV<|bC<|bP<|aI I<|d (ff (M I) hI)<|aY I<|ax I (de I)<|ax I (fun V=>kr (bE I V) hI)<|eZ I<|bj I<|so h▸au I I

def zR s{R}(h:lY s=some R):cN bd 89 [Z rS s] (iD R):=by
 refine dp Tryz.func89 I<|aV<|bC<|bP<|aR<|aY I<|d (fW (M I) hS)<|aY I<|ap I (de I)<|ap I (fun V=>nT nG (bE I V))<|ap I (fun V=>eX (bE I V) hI)<|dU I<|aY I<|cu h fun t q_t h=>ap I (de I) ?_
 obtain⟨b,h1t,h0t⟩:=og q_t
 have q_bg:=fun A=>(h1t A).1
 refine ap I (fun V=>lK nG (bE I V) hI (q_bg V))<|ap I (fun V=>U8 O9 Tryz.underlying21 (bE I V)) ?_
 obtain⟨r,h1t⟩:=Sk (fun A=>(h1t A).2)
 have q_rg:=fun A=>(h1t A).1
 refine ap I (fun V=>bq Xw (Qf _ (q_rg V)) ⟨(bE I V),Q⟩)<|ap I (rJ I)<|d (cD (M I) (fun A=>(bE I (mD A))) (fun A=>(h1t A).2) h0t)<|aY I<|cu h fun t1 q_t1 h=>ap I (de I) ?_
 obtain⟨r1,h1t1,h0t1⟩:=og q_t1
 have q_r1g:=fun A=>(h1t1 A).1
 refine ap I (fun V=>bq abE (Wg _ (q_r1g V)) ⟨(bE I V),Q⟩) ?_
 obtain⟨r2,h1t1⟩:=Sk (fun A=>(h1t1 A).2)
 have q_r2g:=fun A=>(h1t1 A).1
 refine ap I (fun V=>bq abF (Wh _ (q_r2g V)) ⟨(bE I V),Q⟩)<|d (cD (M I) (fun A=>(bE I (mD A))) (fun A=>(h1t1 A).2) h0t1)<|bX h I (fun h=>?_) (fun h=>?_)
 ·exact aV<|bC<|cA<|af<|so h▸au I I
 ·refine gp<|aR<|aY I<|ME nG (M I) I fun rg=>bP<|ai<|bp ?_;refine ay (Zv (β:=Int×Int) (tD:=fun ls=>qH ls=some R) (Of:=fun ls=>[H6 rg s ls]) (Gf:=[(25,tV (an rg 0))]) (fun ls h ih=>?_) (Lw s) h) (a8 I);refine dw<|aV ?_;refine ON (M I) I (fun hl=>?_) (fun e tl hk=>?_)
  ·subst hl
   exact d (JZ (M I))<|bP<|aA<|qM (M I) I<|ep<|aE<|aE<|cK<|aq<|aV<|bC<|cA<|aM<|so h▸au I I
  ·subst hk
   refine d (Bh (i:=0) I (M I))<|bP<|aA<|qL (M I) I<|gp<|ai<|aV<|d (Bh (i:=2) I (M I))<|bh I<|aI I<|eg h abD (Wf _) (da I) fun r3 h=>d (fD (M I))<|aY I<|cu h fun t2 q_t2 h=>ax I (de I) ?_
   obtain⟨r4,h1t2,h0t2⟩:=og q_t2
   have q_r4g:=fun A=>(h1t2 A).1
   refine ax I (fun V=>bq Xw (Qf _ (q_r4g V)) ⟨(bE I V),Q⟩)<|ax I (rJ I)<|d (co (M I) (fun A=>(bE I A)) (fun A=>(h1t2 A).2) h0t2)<|aY I<|ax I (de I)<|ax I (uI I)<|eZ I<|bX h I (fun h=>?_) (fun h=>?_)
   ·exact aV<|bC<|cA<|bT<|bT<|aM<|so h▸au I I
   ·refine bl<|bn ?_;exact aO (ay (ih tl (by simp) h) (a8 I))

def VP s f{R}(h:gH s f=some R):cN bd 203 [gb (cQ) s,(jT bd E3 E0 (fun(x:cb)=>f x))] (bf R):=by
 refine dp Tryz.func203 I<|aV<|bF<|bP<|aR<|aY I<|bY ol I<|d (bB hI)<|bP<|ai<|aN (k:=6) I fun hN=>bp ?_;refine ay (dx (tD:=fun ls i=>(s.drop i=ls)/\dk f ls i=some R) (Of:=fun _ i=>[]) (Gf:=fun _ i=>[(0,gb (cQ) s),(1,(jT bd E3 E0 (fun(x:cb)=>f x))),(7,iG s),(8,bf (i:Int))]) (fun i h=>?_) (fun e tl ih i h=>?_) s 0 ⟨I,h⟩) (a8 I)
 ·obtain⟨D,h⟩:=h
  exact dh D I<|aq<|aV<|dG<|so h▸au I I
 ·obtain⟨D,h⟩:=h
  refine dg D I<|aA<|ai<|aI I<|bh I<|aI I<|aY I<|aY I<|uH ol jg I (cW D) ?_;refine cM jg I<|cu h fun r q_r h=>d (ku (args:=E3) (res:=MW) (f:=(fun(x:cb)=>f x)) (x:=((e):cb)) (M I) q_r ⟨(M I),Q⟩)<|bX h I (fun h=>?_) (fun h=>?_)
  ·exact aI I<|bj I<|bT<|af<|bT<|so h▸au I I
  ·refine bl<|cS D hN I ?_;exact aO (ay (ih (i+1) ⟨cO D,h⟩) (a8 I))

def VO of name p{R}(h:fT of name p=some R):cN bd 204 [Z cQ p,bo (rT ((jT bd E3 AS (fun(x:cb)=>of x)))) (),bo rS name] (iD R):=by
 refine dp Tryz.func204 I<|aV<|cL I<|bC<|bP<|aA<|cu h fun r q_r h=>?_
 refine d8 (ts:=[_,_,_,_,_,_]) mixed I I
  ⟨qN 1 I I (ua ZY (M I)),
  ⟨qN 3 I I (nM jg I I),
  ⟨eh 5 0 6 1 I I I (ku (args:=E3) (res:=AS) (f:=(fun(x:cb)=>of x)) (x:=((p):cb)) (M I) q_r ⟨(M I),Q⟩),
  ⟨qN 2 I I (nM ja I I),
  ⟨eh 7 2 8 3 I I I (fW (M I) (M I)),
  ⟨fL 9 4 I I (Cm I),
  Q⟩⟩⟩⟩⟩⟩ ?_
 exact aq<|yJ<|so h▸au I I

def V5 l of name{R}(h:kH l of name=some R):cN bd 162 [gb (cQ) l,(jT bd E3 AS (fun(x:cb)=>of x)),Z rS name] (tT [bf R.1,iD R.2]):=by
 refine dp Tryz.func162 I<|aV<|d (PB (M I))<|cL I<|bF<|bC<|bP<|aI I<|d ((show cH _ _ _ _ ((jT bd E3 E0 (fun(x:cb)=>(fT of name) x)))from rs (cts:=[bo (rT ((jT bd E3 AS (fun(x:cb)=>of x)))) (),bo rS name]) (caps:=[.tmp 4,.tmp 5]) aba ⟨(M I),(M I),Q⟩ (fun x y h=>VO _ _ _ h)))<|eg h abb (VP _ _) (da I) fun r h=>bh I<|aI I<|d (Fx (M I) hI)<|aY I<|d (ff (M I) hI) ?_;exact gx I<|bj I<|so h▸c0 I I I

def Wk l of{R}(h:nv l of=some R):cN bd 126 [gb (cQ) l,(jT bd E3 AS (fun(x:cb)=>of x))] (iD R):=by
 refine dp Tryz.func126 I<|aV<|bC<|bP<|aR<|aY I<|bY ol I<|d (bB hI)<|bP<|ai<|aN (k:=9) I fun hN=>bp ?_;refine ay (dx (tD:=fun ls i=>(l.drop i=ls)/\gP l of ls i=some R) (Of:=fun _ i=>[]) (Gf:=fun _ i=>[(0,gb (cQ) l),(1,(jT bd E3 AS (fun(x:cb)=>of x))),(9,gb (cQ) l),(10,iG l),(11,bf (i:Int))]) (fun i h=>?_) (fun e tl ih i h=>?_) l 0 ⟨I,h⟩) (a8 I)
 ·obtain⟨D,h⟩:=h
  exact dh D I<|aq<|aV<|bC<|cA<|so h▸au I I
 ·obtain⟨D,h⟩:=h
  refine dg D I<|aA<|ai<|aI I<|d9 ol jg I (cW D)<|aX jg oC I fun b=>gx I<|bM jg aj I<|aQ 6 I<|bP<|aA ?_;refine aL<|aY I<|aY I<|aY I<|cM jg I<|cu h fun r q_r h=>d (ku (args:=E3) (res:=AS) (f:=(fun(x:cb)=>of x)) (x:=((e):cb)) (M I) q_r ⟨(M I),Q⟩)<|eg h abt (V5 _ _ _) (da I) fun r1 h=>aY I<|cU I I<|cU I I<|gx I<|bh I<|aI I<|aY I<|d (du (M I) (M I))<|aY I<|cu h fun t q_t h=>ap I (de I) ?_;refine ap I (fun V=>nM jg I I) ?_
  obtain⟨r2,h1t,h0t⟩:=og q_t
  have q_r2g:=fun A=>(h1t A).1
  refine ap I (fun V=>ku (args:=E3) (res:=AS) (f:=(fun(x:cb)=>of x)) (x:=((e):cb)) (bE I V) (q_r2g V) ⟨(bE I V),Q⟩) ?_
  obtain⟨r3,h1t⟩:=Sk (fun A=>(h1t A).2)
  have q_r3g:=fun A=>(h1t A).1
  refine ap I (fun V=>bq Mw (zR _ (q_r3g V)) ⟨(bE I V),Q⟩)<|ap I (rJ I)<|d (cD (M I) (fun A=>(bE I (mD A))) (fun A=>(h1t A).2) h0t)<|bX h I (fun h=>?_) (fun h=>?_)
  ·exact aV<|bC<|cA<|bT<|af<|bT<|so h▸au I I
  ·refine bl<|cS D hN I ?_;exact aO (ay (ih (i+1) ⟨cO D,h⟩) (a8 I))

def Wj c{R}(h:fX c=some R):cN bd 127 [Z cQ c] (Z rS R):=by
 exact dp Tryz.func127 I<|aV<|cL I<|d (cg hS)<|bP<|aV<|aU tA ky ja I<|bj I<|so h▸au I I

def Wi kind{R}(h:vh kind=some R):cN bd 128 [bf kind] (Z rS R):=by
 refine dp Tryz.func128 I<|aV<|d (cg hS)<|bP<|aR<|d (Ju (r:=(qD Al 3)) (x:=Yn) gm0 gr0 (eS ZW I I Xh))<|d (bB hI)<|bP<|ai<|bp ?_;refine ay (KL (tD:=fun k i=>(3-i=k)/\kY kind k i=some R) (Of:=fun _ i=>[]) (Gf:=fun _ i=>[(0,bf kind),(5,Z (qD Al 3) Yn),(6,bf (i:Int))]) (fun i h=>?_) (fun k1 ih i h=>?_) 3 0 ⟨I,h⟩) (a8 I)
 ·obtain⟨D,h⟩:=h
  exact dw<|aV<|d (eN (M I) hI)<|bP<|aA<|qM (M I) (Rx D)<|ep<|aE<|aE<|cK<|aq<|aV<|d (cg hS)<|cA<|so h▸au I I
 ·obtain⟨D,h⟩:=h
  refine dw<|aV<|d (eN (M I) hI)<|bP<|aA<|qL (M I) (Rw D)<|gp<|aA<|ai<|aV<|cu h fun e1 q_e1 h=>d (xz Tryz.underlying227 Sz I I (M I) (M I) q_e1)<|aX Sz UH I fun b=>bM Sz aj I<|aQ 4 I<|bP<|aV<|oU Vl RN I ?_;refine cM cF I<|aY I<|d (m6 (M I) (M I))<|bX h I (fun h=>?_) (fun h=>?_)
  ·exact aV<|aU Vm RO ja I<|bj I<|bT<|af<|bT<|so h▸au I I
  ·refine bl<|bn<|aq<|aL<|d (wB (NV D (by decide)) (M I) hI)<|aY I<|br ?_;exact aO (ay (ih (i+1) ⟨NU D,h⟩) (a8 I))

def YA t{R}(h:oa t=some R):cN bd 84 [Z cv t] (bf R):=by
 refine dp Tryz.func84 I<|aV<|cL I<|bF<|bP<|aV<|aU wO pF ja I<|eg h Mw (zR _) (da I) fun r h=>aY I<|ax I (bQ iF ev I I)<|ax I (bN oq I I)<|ax I (gy ol I)<|ax I (fun V=>ff (bE I V) hI)<|eZ I<|aY I<|ax I (bQ iF ev I I)<|ax I (bN oq I I)<|ax I (gy ol I)<|ax I (fun V=>kr (bE I V) hI) ?_;refine eZ I<|aY I<|cu h fun t1 q_t1 h=>ax I (bQ iF ev I I)<|ax I (bN oq I I) ?_
 obtain⟨r1,h1t1,h0t1⟩:=og q_t1
 have q_r1g:=fun A=>(h1t1 A).1
 refine ax I (fun V=>bq abI (Wk _ _ (q_r1g V)) ⟨(bE I V),(Yl abH fun x y h=>Wj _ h),Q⟩)<|d (co (M I) (fun A=>(bE I A)) (fun A=>(h1t1 A).2) h0t1)<|bh I<|aR<|aU iF ev oq I<|bY ol I<|d (bB hI)<|bP<|ai<|aN (k:=29) I fun hN=>bp ?_;refine ay (jX (tD:=fun ls i ok=>(t.Columns.drop i=ls)/\iv t ls ok=some R) (Of:=fun _ i ok=>[]) (Gf:=fun _ i ok=>[(1,bo cv t),(3,iD ok),(29,gb (cQ) t.Columns),(30,iG t.Columns),(31,bf (i:Int))]) (fun i ok h=>?_) (fun e tl ih i ok h=>?_) t.Columns 0 t1 ⟨I,h⟩) (a8 I)
 ·obtain⟨D,h⟩:=h
  refine dh D I<|aq<|aR<|aU o7 j7 fV I<|bY fH I<|d (bB hI)<|bP<|ai<|aN (k:=44) I fun hN1=>?_;refine bp ?_;refine ay (jX (tD:=fun ls1 i1 ok1=>(t.Keys.drop i1=ls1)/\gw t ls1 i1 ok1=some R) (Of:=fun _ i1 ok1=>[]) (Gf:=fun _ i1 ok1=>[(1,bo cv t),(3,iD ok1),(44,qn t.Keys),(45,iG t.Keys),(46,bf (i1:Int))]) (fun i1 ok1 h=>?_) (fun e1 tl1 ih1 i1 ok1 h=>?_) t.Keys 0 ok ⟨I,h⟩) (a8 I)
  ·obtain⟨hx1,h⟩:=h
   refine dh hx1 I<|aq<|aR<|aY I<|d (fD (M I))<|bX h I (fun h=>?_) (fun h=>?_)
   ·exact aV<|dG<|af<|so h▸au I I
   ·exact gp<|aV<|dG<|so h▸au I I
  ·obtain⟨hx1,h⟩:=h
   refine dg hx1 I<|aA<|ai<|aI I<|d9 fH cF I (cW hx1)<|gx I<|bh I<|aL<|aY I<|aY I ?_;refine ax I (de I)<|ax I (fun V=>ff (bE I V) hI)<|eZ I<|aY I<|ax I (de I)<|ax I (bQ iF ev I I)<|ax I (bN oq I I)<|ax I (gy ol I)<|ax I (fun V=>eN (bE I V) (bE I V))<|eZ I<|aY I<|cu h fun t2 q_t2 h=>ax I (de I)<|ax I (mX I)<|ax I (rn I) ?_
   obtain⟨t3,h1t2,h0t2⟩:=og q_t2
   have q_t3g:=fun A=>(h1t2 A).1
   refine fk I I I I (fun V=>kO o7 j7 I I)<|fk I I I I (fun V=>eS fV I I (bE I V))<|fk I I I I (fun V=>fR I)<|fk I I I I (fun V=>fm (bE I V) hI) ?_
   obtain⟨e2,h1t3,h0t3⟩:=Yg q_t3g
   have q_e2g:=fun A=>(h1t3 A).1
   refine fk I I I I (fun V=>d6 fH cF I (bE I V) (bE I V) (q_e2g V))<|fk I I I I (fun V=>eS cF I I (bE I V))<|fk I I I I (fun V=>fR I)<|fk I I I I (fun V=>eN (bE I V) (bE I V))<|ax I (fun V=>cD (bE I V) (fun A=>(bE I (sr V (mD A)))) (fun A=>(h1t3 (sr V A)).2) (fun A=>h0t3 V A))<|d (co (M I) (fun A=>(bE I A)) (fun A=>(h1t2 A).2) h0t2)<|gx I<|br<|cS hx1 hN1 I ?_;exact aO (ay (ih1 (i1+1) t2 ⟨cO hx1,h⟩) (a8 I))
 ·obtain⟨D,h⟩:=h
  refine dg D I<|aA<|ai<|aV<|d9 ol jg I (cW D)<|aX jg oC I fun b=>bM jg aj I<|aQ 5 I<|bP<|aL<|aY I<|aY I ?_;refine cu h fun t4 q_t4 h=>ax I (bQ FE ud I I)<|ax I (bN cF I I) ?_
  obtain⟨r2,h1t4,h0t4⟩:=og q_t4
  have q_r2g:=fun A=>(h1t4 A).1
  refine ax I (fun V=>bq abG (Wi _ (q_r2g V)) ⟨(bE I V),Q⟩)<|ax I (fun V=>va (bE I V) hS)<|d (co (M I) (fun A=>(bE I A)) (fun A=>(h1t4 A).2) h0t4)<|gx I<|br<|cS D hN I ?_;exact aO (ay (ih (i+1) t4 ⟨cO D,h⟩) (a8 I))

def YB t{R}(h:mp t=some R):cN bd 83 [Z cv t] (iD R):=by
 exact dp Tryz.func83 I<|aV<|cL I<|bC<|bP<|aV<|cM jN I<|eg h acx (YA _) (da I) fun r h=>ib I<|bj I<|so h▸au I I

def Qh s f{R}(h:dH s f=some R):cN bd 129 [gb (cv) s,(jT bd Cy E0 (fun(x:bU)=>f x))] (bf R):=by
 refine dp Tryz.func129 I<|aV<|bF<|bP<|aR<|aY I<|bY qp I<|d (bB hI)<|bP<|ai<|aN (k:=6) I fun hN=>bp ?_;refine ay (dx (tD:=fun ls i=>(s.drop i=ls)/\bZ f ls i=some R) (Of:=fun _ i=>[]) (Gf:=fun _ i=>[(0,gb (cv) s),(1,(jT bd Cy E0 (fun(x:bU)=>f x))),(7,iG s),(8,bf (i:Int))]) (fun i h=>?_) (fun e tl ih i h=>?_) s 0 ⟨I,h⟩) (a8 I)
 ·obtain⟨D,h⟩:=h
  exact dh D I<|aq<|aV<|dG<|so h▸au I I
 ·obtain⟨D,h⟩:=h
  refine dg D I<|aA<|ai<|aI I<|bh I<|aI I<|aY I<|aY I<|uH qp jN I (cW D) ?_;refine cM jN I<|cu h fun r q_r h=>d (ku (args:=Cy) (res:=MW) (f:=(fun(x:bU)=>f x)) (x:=((e):bU)) (M I) q_r ⟨(M I),Q⟩)<|bX h I (fun h=>?_) (fun h=>?_)
  ·exact aI I<|bj I<|bT<|af<|bT<|so h▸au I I
  ·refine bl<|cS D hN I ?_;exact aO (ay (ih (i+1) ⟨cO D,h⟩) (a8 I))

def Yz s f{R}(h:gB s f=some R):cN bd 85 [gb (cv) s,(jT bd Cy E0 (fun(x:bU)=>f x))] (iD R):=by
 exact dp Tryz.func85 I<|aV<|bC<|bP<|aI I<|aY I<|eg h Xy (Qh _ _) (da I) fun r h=>d (ff (M I) hI)<|bj I<|so h▸au I I

def V4 of name p{R}(h:eB of name p=some R):cN bd 163 [Z cv p,bo (rT ((jT bd Cy AS (fun(x:bU)=>of x)))) (),bo rS name] (iD R):=by
 refine dp Tryz.func163 I<|aV<|cL I<|bC<|bP<|aA<|cu h fun r q_r h=>?_
 refine d8 (ts:=[_,_,_,_,_,_]) mixed I I
  ⟨qN 1 I I (ua Z0 (M I)),
  ⟨qN 3 I I (nM jN I I),
  ⟨eh 5 0 6 1 I I I (ku (args:=Cy) (res:=AS) (f:=(fun(x:bU)=>of x)) (x:=((p):bU)) (M I) q_r ⟨(M I),Q⟩),
  ⟨qN 2 I I (nM ja I I),
  ⟨eh 7 2 8 3 I I I (fW (M I) (M I)),
  ⟨fL 9 4 I I (Cm I),
  Q⟩⟩⟩⟩⟩⟩ ?_
 exact aq<|yJ<|so h▸au I I

def Qg l of name{R}(h:gZ l of name=some R):cN bd 130 [gb (cv) l,(jT bd Cy AS (fun(x:bU)=>of x)),Z rS name] (tT [bf R.1,iD R.2]):=by
 refine dp Tryz.func130 I<|aV<|d (PB (M I))<|cL I<|bF<|bC<|bP<|aI I<|d ((show cH _ _ _ _ ((jT bd Cy E0 (fun(x:bU)=>(eB of name) x)))from rs (cts:=[bo (rT ((jT bd Cy AS (fun(x:bU)=>of x)))) (),bo rS name]) (caps:=[.tmp 4,.tmp 5]) abs ⟨(M I),(M I),Q⟩ (fun x y h=>V4 _ _ _ h)))<|eg h Xy (Qh _ _) (da I) fun r h=>bh I<|aI I<|d (Fx (M I) hI)<|aY I<|d (ff (M I) hI) ?_;exact gx I<|bj I<|so h▸c0 I I I

def Yy l of{R}(h:n9 l of=some R):cN bd 86 [gb (cv) l,(jT bd Cy AS (fun(x:bU)=>of x))] (iD R):=by
 refine dp Tryz.func86 I<|aV<|bC<|bP<|aR<|aY I<|bY qp I<|d (bB hI)<|bP<|ai<|aN (k:=9) I fun hN=>bp ?_;refine ay (dx (tD:=fun ls i=>(l.drop i=ls)/\ig l of ls i=some R) (Of:=fun _ i=>[]) (Gf:=fun _ i=>[(0,gb (cv) l),(1,(jT bd Cy AS (fun(x:bU)=>of x))),(9,gb (cv) l),(10,iG l),(11,bf (i:Int))]) (fun i h=>?_) (fun e tl ih i h=>?_) l 0 ⟨I,h⟩) (a8 I)
 ·obtain⟨D,h⟩:=h
  exact dh D I<|aq<|aV<|bC<|cA<|so h▸au I I
 ·obtain⟨D,h⟩:=h
  refine dg D I<|aA<|ai<|aI I<|d9 qp jN I (cW D)<|aX jN zj I fun b=>gx I<|bM jN aj I<|aQ 6 I<|bP<|aA ?_;refine aL<|aY I<|aY I<|aY I<|cM jN I<|cu h fun r q_r h=>d (ku (args:=Cy) (res:=AS) (f:=(fun(x:bU)=>of x)) (x:=((e):bU)) (M I) q_r ⟨(M I),Q⟩)<|eg h Xx (Qg _ _ _) (da I) fun r1 h=>aY I<|cU I I<|cU I I<|gx I<|bh I<|aI I<|aY I<|d (du (M I) (M I))<|aY I<|cu h fun t q_t h=>ap I (de I) ?_;refine ap I (fun V=>nM jN I I) ?_
  obtain⟨r2,h1t,h0t⟩:=og q_t
  have q_r2g:=fun A=>(h1t A).1
  refine ap I (fun V=>ku (args:=Cy) (res:=AS) (f:=(fun(x:bU)=>of x)) (x:=((e):bU)) (bE I V) (q_r2g V) ⟨(bE I V),Q⟩) ?_
  obtain⟨r3,h1t⟩:=Sk (fun A=>(h1t A).2)
  have q_r3g:=fun A=>(h1t A).1
  refine ap I (fun V=>bq Mw (zR _ (q_r3g V)) ⟨(bE I V),Q⟩)<|ap I (rJ I)<|d (cD (M I) (fun A=>(bE I (mD A))) (fun A=>(h1t A).2) h0t)<|bX h I (fun h=>?_) (fun h=>?_)
  ·exact aV<|bC<|cA<|bT<|af<|bT<|so h▸au I I
  ·refine bl<|cS D hN I ?_;exact aO (ay (ih (i+1) ⟨cO D,h⟩) (a8 I))

def TA t{R}(h:eG t=some R):cN bd 87 [Z cv t] (Z rS R):=by
 exact dp Tryz.func87 I<|aV<|cL I<|d (cg hS)<|bP<|aV<|aU wO pF ja I<|bj I<|so h▸au I I

def YW c{R}(h:tF c=some R):cN bd 38 [Z bG c] (bf R):=by
 refine dp Tryz.func38 I<|aV<|cL I<|bF<|bP<|aV<|d (cg (show bk _ _ _ ((jT bd Cy E0 (fun(x:bU)=>mp x)))from(Yl acy fun x y h=>YB _ h)))<|bP<|aR<|aU kX dE sL I<|bY qp I<|d (eX (M I) hI)<|aY I<|cu h fun t q_t h=>ap I (bQ kX dE I I)<|ap I (bN sL I I)<|ap I (de I) ?_
 obtain⟨r,h1t,h0t⟩:=og q_t
 have q_rg:=fun A=>(h1t A).1
 refine ap I (fun V=>bq acw (Yz _ _ (q_rg V)) ⟨(bE I V),(bE I V),Q⟩)<|d (cD (M I) (fun A=>(bE I (mD A))) (fun A=>(h1t A).2) h0t)<|aY I<|cu h fun t1 q_t1 h=>ap I (bQ kX dE I I)<|ap I (bN sL I I) ?_
 obtain⟨r1,h1t1,h0t1⟩:=og q_t1
 have q_r1g:=fun A=>(h1t1 A).1
 refine ap I (fun V=>bq acv (Yy _ _ (q_r1g V)) ⟨(bE I V),(Yl aaR fun x y h=>TA _ h),Q⟩)<|ap I (rJ I)<|d (cD (M I) (fun A=>(bE I (mD A))) (fun A=>(h1t1 A).2) h0t1)<|bX h I (fun h=>?_) (fun h=>?_)
 ·exact aV<|dG<|af<|so h▸au I I
 ·exact gp<|aV<|dG<|so h▸au I I

def Tz n{R}(h:wb n=some R):cN bd 88 [bf n] (iD R):=by
 exact dp Tryz.func88 I<|aV<|bC<|bP<|aI I<|d (ff (M I) hI)<|aY I<|ax I (de I)<|ax I (fun V=>kr (bE I V) hI)<|eZ I<|bj I<|so h▸au I I

def We s f{R}(h:gG s f=some R):cN bd 135 [gb (aW) s,(jT bd UK E0 (fun(x:aK)=>f x))] (bf R):=by
 refine dp Tryz.func135 I<|aV<|bF<|bP<|aR<|aY I<|bY tL I<|d (bB hI)<|bP<|ai<|aN (k:=6) I fun hN=>bp ?_;refine ay (dx (tD:=fun ls i=>(s.drop i=ls)/\dK f ls i=some R) (Of:=fun _ i=>[]) (Gf:=fun _ i=>[(0,gb (aW) s),(1,(jT bd UK E0 (fun(x:aK)=>f x))),(7,iG s),(8,bf (i:Int))]) (fun i h=>?_) (fun e tl ih i h=>?_) s 0 ⟨I,h⟩) (a8 I)
 ·obtain⟨D,h⟩:=h
  exact dh D I<|aq<|aV<|dG<|so h▸au I I
 ·obtain⟨D,h⟩:=h
  refine dg D I<|aA<|ai<|aI I<|bh I<|aI I<|aY I<|aY I<|uH tL pj I (cW D) ?_;refine cM pj I<|cu h fun r q_r h=>d (ku (args:=UK) (res:=MW) (f:=(fun(x:aK)=>f x)) (x:=((e):aK)) (M I) q_r ⟨(M I),Q⟩)<|bX h I (fun h=>?_) (fun h=>?_)
  ·exact aI I<|bj I<|bT<|af<|bT<|so h▸au I I
  ·refine bl<|cS D hN I ?_;exact aO (ay (ih (i+1) ⟨cO D,h⟩) (a8 I))

end Go.Proofs.YthbdkceckjihgaaGreatDoor

