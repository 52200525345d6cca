/- de of this claim: P0. -/
import Derived.Test.YtigldkegamffhaaGreatDoorBfT
import Derived.Test.YtigldkegamffhaaGreatDoorBfF
set_option linter.all false
namespace Go.Proofs.YtigldkegamffhaaGreatDoor
open Go
abbrev aU:=rI .i64
abbrev lW:=KB (fun y:Bool=>mb y)
abbrev DD:=fun(x:ap)=>[K bK x]
abbrev Ir:=fun(x:aA×Int)=>tT [K ah x.1,br x.2]
noncomputable abbrev Wa:=gZ aY DD Ir (fun(x:ap)=>bz x)
abbrev xG:=fun(x:Bool)=>mb x
abbrev RD:=fun(mc:ac) (mx:Bool)=>(gD mc mx).map fun mr=>(mr,mc)
abbrev qd:=(⟨[]⟩:bT)
abbrev NJ:=(⟨(0:Int),(0:Int),(0:Int),[]⟩:cr)
abbrev Fp:=(⟨[116],[]⟩:ci)
abbrev J1:=fun(x:(List Int))=>yl x
abbrev zk9:=fun(x:eS×eS)=>[K aM x.1,K aM x.2]
abbrev Ar:=(⟨[],[],(0:Int)⟩:be)
abbrev Co:=fun(x:bR)=>[K di x]
abbrev fq:=X2 aU 3
abbrev TD:=fun(x:gj×gj)=>[K bg x.1,K bg x.2]
noncomputable abbrev TF:=gZ aY TD xG (fun(x:gj×gj)=>iS x.1 x.2)
abbrev wB:=fun(x:Bool)=>[mb x]
abbrev Ft:=fun(x:bJ)=>[K cX x]
abbrev tt:=(⟨[]⟩:aA)
abbrev Aq:=fun(x:cj)=>K rS x
abbrev lJ:=(-1:Int)
noncomputable abbrev TE:=gZ aY zk9 xG (fun(x:eS×eS)=>iT x.1 x.2)
abbrev RH:=(⟨[97],(2:Int)⟩:bJ)
abbrev J5:=(⟨[],(2:Int),false⟩:rQ)
abbrev J4:=fun(x:Unit)=>([]:List Ty)
abbrev Gg:=fun(x:Bool)=>K rB x
abbrev NK:=(⟨[],[],[],[],(0:Int)⟩:bf)
abbrev V9:=fun(x:aF×aF)=>[K bU x.1,K bU x.2]
abbrev Fq:=fJ aU
abbrev RF:=fun(x:(List Int))=>K Fq x
abbrev V8:=fun(x:ap×(List Int))=>[K bK x.1,yl x.2]
abbrev J3:=fun(x:Int)=>br x
abbrev tp:=kvI .i64
abbrev J2:=(⟨[]⟩:aw)
abbrev Yz:=fun(x:ap×(List Int))=>[K bK x.1,K Fq x.2]
abbrev Fs:=([]:List Int)
abbrev V7:=fun(x:Int×Int)=>tT [br x.1,br x.2]
abbrev Yn:=(⟨[98],(3:Int)⟩:bJ)
abbrev Yy:=(⟨[116],[RH,Yn],[]⟩:bR)
abbrev RE:=fun(x:Bool)=>[K rB x]
abbrev TC:=fun(x:cx)=>[K cd x]
abbrev TB:=fun(x:ev)=>[K cv x]
abbrev Yx:=fun(x:aA×aA)=>[K ah x.1,K ah x.2]
abbrev Yw:=fun(x:aA×Int)=>tT [K ah x.1,K aU x.2]
abbrev DC:=n7 aU 2
abbrev V6:=fun(x:ae)=>[K aR x]
abbrev Yv:=fun(mc:ac) (mx:Unit)=>dy mc
abbrev Yu:=fun(mc:ac) (mx:Unit)=>dC mc
abbrev Yt:=fun(mc:ac) (mx:Unit)=>cS mc
abbrev Ys:=fun(mc:ac) (mx:Unit)=>dG mc
abbrev Yr:=fun(mc:ac) (mx:Unit)=>dj mc
abbrev Yq:=fun(mc:ac) (mx:Unit)=>dk mc
abbrev Yp:=fun(x:Int×Int)=>tT [K aU x.1,K aU x.2]
abbrev V5:=fun(x:bT)=>[K aX x]
abbrev V4:=fun(x:gj)=>[K bg x]
abbrev Yo:=(⟨[117],[RH],[]⟩:bR)
set_option maxRecDepth 100000

def Vd c{R}(h:wl c=some R):dZ aY 65 [K (rI .i32) c] (mb R):=by
 exact fc Tryz.func65 I<|bA<|cJ<|co<|aQ I<|Q (lQ (M I) hI)<|bC I<|aB I (gB I)<|aB I (fun hg=>pJ (df I hg) hI)<|j5 I<|bF I<|so h▸aT I I

def Vh s v{R}(h:fR s v=some R):dZ aY 57 [jo (rS) s,K rS v] (br R):=by
 refine fc Tryz.func57 I<|bA<|dg<|co<|bN<|bC I<|dr A8 I<|Q (bG hI)<|co<|am<|bE (k:=6) I fun hN=>cc ?_;refine aP (gG (tV:=fun ls i=>(s.drop i=ls)/\d8 v ls i=some R) (Of:=fun _ i=>[]) (Gf:=fun _ i=>[(0,jo (rS) s),(1,K rS v),(7,mY s),(8,br (i:Int))]) (fun i h=>?_) (fun e tl ih i h=>?_) s 0 ⟨I,h⟩) (bO I)
 ·obtain⟨D,h⟩:=h
  exact fH D I<|aC<|bA<|iG<|so h▸aT I I
 ·obtain⟨D,h⟩:=h
  refine fG D I<|aE<|am<|aQ I<|bP I<|aQ I<|bC I<|bC I<|xH A8 mT I (d6 D) ?_;refine d5 mT I<|Q (na (M I) (M I))<|eK h I (fun h=>?_) (fun h=>?_)
  ·exact aQ I<|bF I<|ej<|an<|ej<|so h▸aT I I
  ·refine ck<|eP D hN I ?_;exact bl (aP (ih (i+1) ⟨eg D,h⟩) (bO I))

def Vg s v{R}(h:f9 s v=some R):dZ aY 58 [jo (rS) s,K rS v] (mb R):=by
 exact fc Tryz.func58 I<|bA<|cJ<|co<|aQ I<|bC I<|jE h abD (Vh _ _) (gm I) fun r h=>Q (lQ (M I) hI)<|bF I<|so h▸aT I I

def Zu s{R}(h:wU s=some R):dZ aY 66 [K rS s] (mb R):=by
 exact fc Tryz.func66 I<|bA<|cJ<|co<|bA<|Q (JS (r:=n7 rS 28) (x:=Y0) gm1 gr1 (Sm Tryz.underlying170 mT I X7))<|bC I<|jE h abC (Vg _ _) (gm I) fun r h=>bF I<|so h▸aT I I

def Zt s{R}(h:kg s=some R):dZ aY 67 [K rS s] (K rS R):=by
 unfold kg at h
 split at h
 ·rename_i hl
  cases h
  refine Ng fun w hw=>?_
  have:=Any.strings_ToUpper_any xz upX ⟨s.toArray⟩ w (by rw [Rr];exact hl) hw.1 hw.2
  simp only [List.toList_toArray]at this
  exact this
 ·cases h

def Zs c{R}(h:zZ c=some R):dZ aY 68 [K (rI .i32) c] (mb R):=by
 exact fc Tryz.func68 I<|bA<|cJ<|co<|aQ I<|Q (lQ (M I) hI)<|bC I<|aB I (gB I)<|aB I (fun hg=>pJ (df I hg) hI)<|j5 I<|bF I<|so h▸aT I I

def zg s{R}(h:kV s=some R):dZ aY 46 [K rS s] (mb R):=by
 refine fc Tryz.func46 I<|bA<|cJ<|co<|bN<|bC I<|Q (na (M I) hS)<|bC I<|bY I (gB I)<|bY I (fun hg=>tK i6 (df I hg))<|bY I (fun hg=>lP (df I hg) hI)<|ph I<|bC I<|cV h fun t q_t h=>bY I (gB I) ?_
 obtain⟨b,h1t,h0t⟩:=og q_t
 have q_bg:=fun H=>(h1t H).1
 refine bY I (fun hg=>D7 i6 (df I hg) hI (q_bg hg))<|bY I (fun hg=>wR Tryz.underlying5 Tryz.underlying21 (df I hg)) ?_
 obtain⟨r,h1t⟩:=YQ (fun H=>(h1t H).2)
 have q_rg:=fun H=>(h1t H).1
 refine bY I (fun hg=>bH abz (Vd _ (q_rg hg)) ⟨(df I hg),J⟩)<|bY I (Cp I)<|Q (gV (M I) (fun H=>(df I (yf H))) (fun H=>(h1t H).2) h0t)<|bC I<|cV h fun t1 q_t1 h=>bY I (gB I) ?_
 obtain⟨r1,h1t1,h0t1⟩:=og q_t1
 have q_r1g:=fun H=>(h1t1 H).1
 refine bY I (fun hg=>bH ac3 (Zt _ (q_r1g hg)) ⟨(df I hg),J⟩) ?_
 obtain⟨r2,h1t1⟩:=YQ (fun H=>(h1t1 H).2)
 have q_r2g:=fun H=>(h1t1 H).1
 refine bY I (fun hg=>bH ac4 (Zu _ (q_r2g hg)) ⟨(df I hg),J⟩)<|Q (gV (M I) (fun H=>(df I (yf H))) (fun H=>(h1t1 H).2) h0t1)<|eK h I (fun h=>?_) (fun h=>?_)
 ·exact bA<|cJ<|fh<|an<|so h▸aT I I
 ·refine nG<|bN<|bC I<|Nj i6 (M I) I fun rg=>co<|am<|cc ?_;refine aP (aae (β:=Int×Int) (tV:=fun ls=>pt ls=some R) (Of:=fun ls=>[Iv rg s ls]) (Gf:=[(25,Z (al rg 0))]) (fun ls h ih=>?_) (LQ s) h) (bO I);refine d7<|bA ?_;refine PK (M I) I (fun hl=>?_) (fun e tl hk=>?_)
  ·subst hl
   exact Q (Ky (M I))<|co<|aE<|lb (M I) I<|gH<|aH<|aH<|dA<|aC<|bA<|cJ<|fh<|aZ<|so h▸aT I I
  ·subst hk
   refine Q (AU (i:=0) I (M I))<|co<|aE<|la (M I) I<|nG<|am<|bA<|Q (AU (i:=2) I (M I))<|bP I<|aQ I<|jE h ac2 (Zs _) (gm I) fun r3 h=>Q (m9 (M I))<|bC I<|cV h fun t2 q_t2 h=>aB I (gB I) ?_
   obtain⟨r4,h1t2,h0t2⟩:=og q_t2
   have q_r4g:=fun H=>(h1t2 H).1
   refine aB I (fun hg=>bH abz (Vd _ (q_r4g hg)) ⟨(df I hg),J⟩)<|aB I (Cp I)<|Q (cm (M I) (fun H=>(df I H)) (fun H=>(h1t2 H).2) h0t2)<|bC I<|aB I (gB I)<|aB I (EV I)<|j5 I<|eK h I (fun h=>?_) (fun h=>?_)
   ·exact bA<|cJ<|fh<|ej<|ej<|aZ<|so h▸aT I I
   ·refine ck<|bW ?_;exact bl (aP (ih tl (by simp) h) (bO I))

def Xk s f{R}(h:gS s f=some R):dZ aY 116 [jo (cX) s,(gZ aY Ft xG (fun(x:bJ)=>f x))] (br R):=by
 refine fc Tryz.func116 I<|bA<|dg<|co<|bN<|bC I<|dr vY I<|Q (bG hI)<|co<|am<|bE (k:=6) I fun hN=>cc ?_;refine aP (gG (tV:=fun ls i=>(s.drop i=ls)/\cW f ls i=some R) (Of:=fun _ i=>[]) (Gf:=fun _ i=>[(0,jo (cX) s),(1,(gZ aY Ft xG (fun(x:bJ)=>f x))),(7,mY s),(8,br (i:Int))]) (fun i h=>?_) (fun e tl ih i h=>?_) s 0 ⟨I,h⟩) (bO I)
 ·obtain⟨D,h⟩:=h
  exact fH D I<|aC<|bA<|iG<|so h▸aT I I
 ·obtain⟨D,h⟩:=h
  refine fG D I<|aE<|am<|aQ I<|bP I<|aQ I<|bC I<|bC I<|xH vY sS I (d6 D) ?_;refine d5 sS I<|cV h fun r q_r h=>Q (iy (args:=Ft) (res:=Gg) (f:=(fun(x:bJ)=>f x)) (x:=((e):bJ)) (M I) q_r ⟨(M I),J⟩)<|eK h I (fun h=>?_) (fun h=>?_)
  ·exact aQ I<|bF I<|ej<|an<|ej<|so h▸aT I I
  ·refine ck<|eP D hN I ?_;exact bl (aP (ih (i+1) ⟨eg D,h⟩) (bO I))

def Xj of name p{R}(h:gc of name p=some R):dZ aY 117 [K cX p,bt (rT ((gZ aY Ft Aq (fun(x:bJ)=>of x)))) (),bt rS name] (mb R):=by
 refine fc Tryz.func117 I<|bA<|eA I<|cJ<|co<|aE<|cV h fun r q_r h=>?_
 refine mn (ts:=[_,_,_,_,_,_]) mixed I I
  ⟨DF 1 I I (pp aaJ (M I)),
  ⟨DF 3 I I (wx sS I I),
  ⟨ma 5 0 6 1 I I I (iy (args:=Ft) (res:=Aq) (f:=(fun(x:bJ)=>of x)) (x:=((p):bJ)) (M I) q_r ⟨(M I),J⟩),
  ⟨DF 2 I I (wx mT I I),
  ⟨ma 7 2 8 3 I I I (na (M I) (M I)),
  ⟨mU 9 4 I I (IV I),
  J⟩⟩⟩⟩⟩⟩ ?_
 exact aC<|zE<|so h▸aT I I

def Zm l of name{R}(h:kc l of name=some R):dZ aY 84 [jo (cX) l,(gZ aY Ft Aq (fun(x:bJ)=>of x)),K rS name] (tT [br R.1,mb R.2]):=by
 refine fc Tryz.func84 I<|bA<|Q (QH (M I))<|eA I<|dg<|cJ<|co<|aQ I<|Q ((show ce _ _ _ _ ((gZ aY Ft xG (fun(x:bJ)=>(gc of name) x)))from n9 (cts:=[bt (rT ((gZ aY Ft Aq (fun(x:bJ)=>of x)))) (),bt rS name]) (caps:=[.tmp 4,.tmp 5]) ab0 ⟨(M I),(M I),J⟩ (fun x y h=>Xj _ _ _ h)))<|jE h ab1 (Xk _ _) (gm I) fun r h=>bP I<|aQ I<|Q (Kx (M I) hI)<|bC I<|Q (lQ (M I) hI) ?_;exact lI I<|bF I<|so h▸gP I I I

def Zx l of{R}(h:mL l of=some R):dZ aY 60 [jo (cX) l,(gZ aY Ft Aq (fun(x:bJ)=>of x))] (mb R):=by
 refine fc Tryz.func60 I<|bA<|cJ<|co<|bN<|bC I<|dr vY I<|Q (bG hI)<|co<|am<|bE (k:=9) I fun hN=>cc ?_;refine aP (gG (tV:=fun ls i=>(l.drop i=ls)/\gW l of ls i=some R) (Of:=fun _ i=>[]) (Gf:=fun _ i=>[(0,jo (cX) l),(1,(gZ aY Ft Aq (fun(x:bJ)=>of x))),(9,jo (cX) l),(10,mY l),(11,br (i:Int))]) (fun i h=>?_) (fun e tl ih i h=>?_) l 0 ⟨I,h⟩) (bO I)
 ·obtain⟨D,h⟩:=h
  exact fH D I<|aC<|bA<|cJ<|fh<|so h▸aT I I
 ·obtain⟨D,h⟩:=h
  refine fG D I<|aE<|am<|aQ I<|i9 vY sS I (d6 D)<|ba sS ro I fun b=>lI I<|cG sS ak I<|a8 6 I<|co<|aE ?_;refine aO<|bC I<|bC I<|bC I<|d5 sS I<|cV h fun r q_r h=>Q (iy (args:=Ft) (res:=Aq) (f:=(fun(x:bJ)=>of x)) (x:=((e):bJ)) (M I) q_r ⟨(M I),J⟩)<|jE h acV (Zm _ _ _) (gm I) fun r1 h=>bC I<|fI I I<|fI I I<|lI I<|bP I<|aQ I<|bC I<|Q (jg (M I) (M I))<|bC I<|cV h fun t q_t h=>bY I (gB I) ?_;refine bY I (fun hg=>wx sS I I) ?_
  obtain⟨r2,h1t,h0t⟩:=og q_t
  have q_r2g:=fun H=>(h1t H).1
  refine bY I (fun hg=>iy (args:=Ft) (res:=Aq) (f:=(fun(x:bJ)=>of x)) (x:=((e):bJ)) (df I hg) (q_r2g hg) ⟨(df I hg),J⟩) ?_
  obtain⟨r3,h1t⟩:=YQ (fun H=>(h1t H).2)
  have q_r3g:=fun H=>(h1t H).1
  refine bY I (fun hg=>bH MW (zg _ (q_r3g hg)) ⟨(df I hg),J⟩)<|bY I (Cp I)<|Q (gV (M I) (fun H=>(df I (yf H))) (fun H=>(h1t H).2) h0t)<|eK h I (fun h=>?_) (fun h=>?_)
  ·exact bA<|cJ<|fh<|ej<|an<|ej<|so h▸aT I I
  ·refine ck<|eP D hN I ?_;exact bl (aP (ih (i+1) ⟨eg D,h⟩) (bO I))

def Zw c{R}(h:gh c=some R):dZ aY 61 [K cX c] (K rS R):=by
 exact fc Tryz.func61 I<|bA<|eA I<|Q (cR hS)<|co<|bA<|cU HA sF mT I<|bF I<|so h▸aT I I

def Zv kind{R}(h:tR kind=some R):dZ aY 62 [br kind] (K rS R):=by
 refine fc Tryz.func62 I<|bA<|Q (cR hS)<|co<|bN<|Q (JS (r:=(n7 zN 3)) (x:=Y1) gm0 gr0 (nO aaH I I X7))<|Q (bG hI)<|co<|am<|cc ?_;refine aP (RA (tV:=fun k i=>(3-i=k)/\ki kind k i=some R) (Of:=fun _ i=>[]) (Gf:=fun _ i=>[(0,br kind),(5,K (n7 zN 3) Y1),(6,br (i:Int))]) (fun i h=>?_) (fun k1 ih i h=>?_) 3 0 ⟨I,h⟩) (bO I)
 ·obtain⟨D,h⟩:=h
  exact d7<|bA<|Q (jh (M I) hI)<|co<|aE<|lb (M I) (UD D)<|gH<|aH<|aH<|dA<|aC<|bA<|Q (cR hS)<|fh<|so h▸aT I I
 ·obtain⟨D,h⟩:=h
  refine d7<|bA<|Q (jh (M I) hI)<|co<|aE<|la (M I) (UC D)<|nG<|aE<|am<|bA<|cV h fun e1 q_e1 h=>Q (zY Tryz.underlying169 TO I I (M I) (M I) q_e1)<|ba TO V3 I fun b=>cG TO ak I<|a8 4 I<|co<|bA<|AD WQ SL I ?_;refine d5 er I<|bC I<|Q (sf (M I) (M I))<|eK h I (fun h=>?_) (fun h=>?_)
  ·exact bA<|cU WR SM mT I<|bF I<|ej<|an<|ej<|so h▸aT I I
  ·refine ck<|bW<|aC<|aO<|Q (mh (Sw D (by decide)) (M I) hI)<|bC I<|bu ?_;exact bl (aP (ih (i+1) ⟨Sv D,h⟩) (bO I))

def ZE t{R}(h:nt t=some R):dZ aY 41 [K di t] (br R):=by
 refine fc Tryz.func41 I<|bA<|eA I<|dg<|co<|bA<|cU U2 Ht mT I<|jE h MW (zg _) (gm I) fun r h=>bC I<|aB I (dQ xh oh I I)<|aB I (dw Kd I I)<|aB I (xJ vY I)<|aB I (fun hg=>lQ (df I hg) hI)<|j5 I<|bC I<|aB I (dQ xh oh I I)<|aB I (dw Kd I I)<|aB I (xJ vY I)<|aB I (fun hg=>pJ (df I hg) hI) ?_;refine j5 I<|bC I<|cV h fun t1 q_t1 h=>aB I (dQ xh oh I I)<|aB I (dw Kd I I) ?_
 obtain⟨r1,h1t1,h0t1⟩:=og q_t1
 have q_r1g:=fun H=>(h1t1 H).1
 refine aB I (fun hg=>bH ac7 (Zx _ _ (q_r1g hg)) ⟨(df I hg),(V2 ac6 fun x y h=>Zw _ h),J⟩)<|Q (cm (M I) (fun H=>(df I H)) (fun H=>(h1t1 H).2) h0t1)<|bP I<|bN<|cU xh oh Kd I<|dr vY I<|Q (bG hI)<|co<|am<|bE (k:=29) I fun hN=>cc ?_;refine aP (gY (tV:=fun ls i ok=>(t.Columns.drop i=ls)/\iq t ls ok=some R) (Of:=fun _ i ok=>[]) (Gf:=fun _ i ok=>[(1,bt di t),(3,mb ok),(29,jo (cX) t.Columns),(30,mY t.Columns),(31,br (i:Int))]) (fun i ok h=>?_) (fun e tl ih i ok h=>?_) t.Columns 0 t1 ⟨I,h⟩) (bO I)
 ·obtain⟨D,h⟩:=h
  refine fH D I<|aC<|bN<|cU KN BD ky I<|dr jL I<|Q (bG hI)<|co<|am<|bE (k:=44) I fun hN1=>?_;refine cc ?_;refine aP (gY (tV:=fun ls1 i1 ok1=>(t.Keys.drop i1=ls1)/\gz t ls1 i1 ok1=some R) (Of:=fun _ i1 ok1=>[]) (Gf:=fun _ i1 ok1=>[(1,bt di t),(3,mb ok1),(44,yl t.Keys),(45,mY t.Keys),(46,br (i1:Int))]) (fun i1 ok1 h=>?_) (fun e1 tl1 ih1 i1 ok1 h=>?_) t.Keys 0 ok ⟨I,h⟩) (bO I)
  ·obtain⟨hx1,h⟩:=h
   refine fH hx1 I<|aC<|bN<|bC I<|Q (m9 (M I))<|eK h I (fun h=>?_) (fun h=>?_)
   ·exact bA<|iG<|an<|so h▸aT I I
   ·exact nG<|bA<|iG<|so h▸aT I I
  ·obtain⟨hx1,h⟩:=h
   refine fG hx1 I<|aE<|am<|aQ I<|i9 jL er I (d6 hx1)<|lI I<|bP I<|aO<|bC I<|bC I ?_;refine aB I (gB I)<|aB I (fun hg=>lQ (df I hg) hI)<|j5 I<|bC I<|aB I (gB I)<|aB I (dQ xh oh I I)<|aB I (dw Kd I I)<|aB I (xJ vY I)<|aB I (fun hg=>jh (df I hg) (df I hg))<|j5 I<|bC I<|cV h fun t2 q_t2 h=>aB I (gB I)<|aB I (sv I)<|aB I (yx I) ?_
   obtain⟨t3,h1t2,h0t2⟩:=og q_t2
   have q_t3g:=fun H=>(h1t2 H).1
   refine jk I I I I (fun hg=>AC KN BD I I)<|jk I I I I (fun hg=>nO ky I I (df I hg))<|jk I I I I (fun hg=>jM I)<|jk I I I I (fun hg=>qF (df I hg) hI) ?_
   obtain⟨e2,h1t3,h0t3⟩:=og3 q_t3g
   have q_e2g:=fun H=>(h1t3 H).1
   refine jk I I I I (fun hg=>kC jL er I (df I hg) (df I hg) (q_e2g hg))<|jk I I I I (fun hg=>nO er I I (df I hg))<|jk I I I I (fun hg=>jM I)<|jk I I I I (fun hg=>jh (df I hg) (df I hg))<|aB I (fun hg=>gV (df I hg) (fun H=>(df I (zy hg (yf H)))) (fun H=>(h1t3 (zy hg H)).2) (fun H=>h0t3 hg H))<|Q (cm (M I) (fun H=>(df I H)) (fun H=>(h1t2 H).2) h0t2)<|lI I<|bu<|eP hx1 hN1 I ?_;exact bl (aP (ih1 (i1+1) t2 ⟨eg hx1,h⟩) (bO I))
 ·obtain⟨D,h⟩:=h
  refine fG D I<|aE<|am<|bA<|i9 vY sS I (d6 D)<|ba sS ro I fun b=>cG sS ak I<|a8 5 I<|co<|aO<|bC I<|bC I ?_;refine cV h fun t4 q_t4 h=>aB I (dQ U1 Fe I I)<|aB I (dw er I I) ?_
  obtain⟨r2,h1t4,h0t4⟩:=og q_t4
  have q_r2g:=fun H=>(h1t4 H).1
  refine aB I (fun hg=>bH ac5 (Zv _ (q_r2g hg)) ⟨(df I hg),J⟩)<|aB I (fun hg=>CL (df I hg) hS)<|Q (cm (M I) (fun H=>(df I H)) (fun H=>(h1t4 H).2) h0t4)<|lI I<|bu<|eP D hN I ?_;exact bl (aP (ih (i+1) t4 ⟨eg D,h⟩) (bO I))

def ZF t{R}(h:lp t=some R):dZ aY 40 [K di t] (mb R):=by
 exact fc Tryz.func40 I<|bA<|eA I<|cJ<|co<|bA<|d5 ut I<|jE h adl (ZE _) (gm I) fun r h=>mp I<|bF I<|so h▸aT I I

def Vf s f{R}(h:dB s f=some R):dZ aY 63 [jo (di) s,(gZ aY Co xG (fun(x:bR)=>f x))] (br R):=by
 refine fc Tryz.func63 I<|bA<|dg<|co<|bN<|bC I<|dr yo I<|Q (bG hI)<|co<|am<|bE (k:=6) I fun hN=>cc ?_;refine aP (gG (tV:=fun ls i=>(s.drop i=ls)/\bM f ls i=some R) (Of:=fun _ i=>[]) (Gf:=fun _ i=>[(0,jo (di) s),(1,(gZ aY Co xG (fun(x:bR)=>f x))),(7,mY s),(8,br (i:Int))]) (fun i h=>?_) (fun e tl ih i h=>?_) s 0 ⟨I,h⟩) (bO I)
 ·obtain⟨D,h⟩:=h
  exact fH D I<|aC<|bA<|iG<|so h▸aT I I
 ·obtain⟨D,h⟩:=h
  refine fG D I<|aE<|am<|aQ I<|bP I<|aQ I<|bC I<|bC I<|xH yo ut I (d6 D) ?_;refine d5 ut I<|cV h fun r q_r h=>Q (iy (args:=Co) (res:=Gg) (f:=(fun(x:bR)=>f x)) (x:=((e):bR)) (M I) q_r ⟨(M I),J⟩)<|eK h I (fun h=>?_) (fun h=>?_)
  ·exact aQ I<|bF I<|ej<|an<|ej<|so h▸aT I I
  ·refine ck<|eP D hN I ?_;exact bl (aP (ih (i+1) ⟨eg D,h⟩) (bO I))

def ZD s f{R}(h:gJ s f=some R):dZ aY 42 [jo (di) s,(gZ aY Co xG (fun(x:bR)=>f x))] (mb R):=by
 exact fc Tryz.func42 I<|bA<|cJ<|co<|aQ I<|bC I<|jE h abB (Vf _ _) (gm I) fun r h=>Q (lQ (M I) hI)<|bF I<|so h▸aT I I

def Zl of name p{R}(h:eD of name p=some R):dZ aY 85 [K di p,bt (rT ((gZ aY Co Aq (fun(x:bR)=>of x)))) (),bt rS name] (mb R):=by
 refine fc Tryz.func85 I<|bA<|eA I<|cJ<|co<|aE<|cV h fun r q_r h=>?_
 refine mn (ts:=[_,_,_,_,_,_]) mixed I I
  ⟨DF 1 I I (pp aaL (M I)),
  ⟨DF 3 I I (wx ut I I),
  ⟨ma 5 0 6 1 I I I (iy (args:=Co) (res:=Aq) (f:=(fun(x:bR)=>of x)) (x:=((p):bR)) (M I) q_r ⟨(M I),J⟩),
  ⟨DF 2 I I (wx mT I I),
  ⟨ma 7 2 8 3 I I I (na (M I) (M I)),
  ⟨mU 9 4 I I (IV I),
  J⟩⟩⟩⟩⟩⟩ ?_
 exact aC<|zE<|so h▸aT I I

def Ve l of name{R}(h:ib l of name=some R):dZ aY 64 [jo (di) l,(gZ aY Co Aq (fun(x:bR)=>of x)),K rS name] (tT [br R.1,mb R.2]):=by
 refine fc Tryz.func64 I<|bA<|Q (QH (M I))<|eA I<|dg<|cJ<|co<|aQ I<|Q ((show ce _ _ _ _ ((gZ aY Co xG (fun(x:bR)=>(eD of name) x)))from n9 (cts:=[bt (rT ((gZ aY Co Aq (fun(x:bR)=>of x)))) (),bt rS name]) (caps:=[.tmp 4,.tmp 5]) acU ⟨(M I),(M I),J⟩ (fun x y h=>Zl _ _ _ h)))<|jE h abB (Vf _ _) (gm I) fun r h=>bP I<|aQ I<|Q (Kx (M I) hI)<|bC I<|Q (lQ (M I) hI) ?_;exact lI I<|bF I<|so h▸gP I I I

def ZC l of{R}(h:nq l of=some R):dZ aY 43 [jo (di) l,(gZ aY Co Aq (fun(x:bR)=>of x))] (mb R):=by
 refine fc Tryz.func43 I<|bA<|cJ<|co<|bN<|bC I<|dr yo I<|Q (bG hI)<|co<|am<|bE (k:=9) I fun hN=>cc ?_;refine aP (gG (tV:=fun ls i=>(l.drop i=ls)/\ii l of ls i=some R) (Of:=fun _ i=>[]) (Gf:=fun _ i=>[(0,jo (di) l),(1,(gZ aY Co Aq (fun(x:bR)=>of x))),(9,jo (di) l),(10,mY l),(11,br (i:Int))]) (fun i h=>?_) (fun e tl ih i h=>?_) l 0 ⟨I,h⟩) (bO I)
 ·obtain⟨D,h⟩:=h
  exact fH D I<|aC<|bA<|cJ<|fh<|so h▸aT I I
 ·obtain⟨D,h⟩:=h
  refine fG D I<|aE<|am<|aQ I<|i9 yo ut I (d6 D)<|ba ut Ck I fun b=>lI I<|cG ut ak I<|a8 6 I<|co<|aE ?_;refine aO<|bC I<|bC I<|bC I<|d5 ut I<|cV h fun r q_r h=>Q (iy (args:=Co) (res:=Aq) (f:=(fun(x:bR)=>of x)) (x:=((e):bR)) (M I) q_r ⟨(M I),J⟩)<|jE h abA (Ve _ _ _) (gm I) fun r1 h=>bC I<|fI I I<|fI I I<|lI I<|bP I<|aQ I<|bC I<|Q (jg (M I) (M I))<|bC I<|cV h fun t q_t h=>bY I (gB I) ?_;refine bY I (fun hg=>wx ut I I) ?_
  obtain⟨r2,h1t,h0t⟩:=og q_t
  have q_r2g:=fun H=>(h1t H).1
  refine bY I (fun hg=>iy (args:=Co) (res:=Aq) (f:=(fun(x:bR)=>of x)) (x:=((e):bR)) (df I hg) (q_r2g hg) ⟨(df I hg),J⟩) ?_
  obtain⟨r3,h1t⟩:=YQ (fun H=>(h1t H).2)
  have q_r3g:=fun H=>(h1t H).1
  refine bY I (fun hg=>bH MW (zg _ (q_r3g hg)) ⟨(df I hg),J⟩)<|bY I (Cp I)<|Q (gV (M I) (fun H=>(df I (yf H))) (fun H=>(h1t H).2) h0t)<|eK h I (fun h=>?_) (fun h=>?_)
  ·exact bA<|cJ<|fh<|ej<|an<|ej<|so h▸aT I I
  ·refine ck<|eP D hN I ?_;exact bl (aP (ih (i+1) ⟨eg D,h⟩) (bO I))

def Vj t{R}(h:eI t=some R):dZ aY 44 [K di t] (K rS R):=by
 exact fc Tryz.func44 I<|bA<|eA I<|Q (cR hS)<|co<|bA<|cU U2 Ht mT I<|bF I<|so h▸aT I I

def ZR c{R}(h:sl c=some R):dZ aY 21 [K cn c] (br R):=by
 refine fc Tryz.func21 I<|bA<|eA I<|dg<|co<|bA<|Q (cR (show aL _ _ _ ((gZ aY Co xG (fun(x:bR)=>lp x)))from(V2 adm fun x y h=>ZF _ h)))<|co<|bN<|cU vS nf Gq I<|dr yo I<|Q (lP (M I) hI)<|bC I<|cV h fun t q_t h=>bY I (dQ vS nf I I)<|bY I (dw Gq I I)<|bY I (gB I) ?_
 obtain⟨r,h1t,h0t⟩:=og q_t
 have q_rg:=fun H=>(h1t H).1
 refine bY I (fun hg=>bH adk (ZD _ _ (q_rg hg)) ⟨(df I hg),(df I hg),J⟩)<|Q (gV (M I) (fun H=>(df I (yf H))) (fun H=>(h1t H).2) h0t)<|bC I<|cV h fun t1 q_t1 h=>bY I (dQ vS nf I I)<|bY I (dw Gq I I) ?_
 obtain⟨r1,h1t1,h0t1⟩:=og q_t1
 have q_r1g:=fun H=>(h1t1 H).1
 refine bY I (fun hg=>bH adj (ZC _ _ (q_r1g hg)) ⟨(df I hg),(V2 abF fun x y h=>Vj _ h),J⟩)<|bY I (Cp I)<|Q (gV (M I) (fun H=>(df I (yf H))) (fun H=>(h1t1 H).2) h0t1)<|eK h I (fun h=>?_) (fun h=>?_)
 ·exact bA<|iG<|an<|so h▸aT I I
 ·exact nG<|bA<|iG<|so h▸aT I I

def Vi n{R}(h:uR n=some R):dZ aY 45 [br n] (mb R):=by
 exact fc Tryz.func45 I<|bA<|cJ<|co<|aQ I<|Q (lQ (M I) hI)<|bC I<|aB I (gB I)<|aB I (fun hg=>pJ (df I hg) hI)<|j5 I<|bF I<|so h▸aT I I

def Zr s f{R}(h:gR s f=some R):dZ aY 69 [jo (aR) s,(gZ aY V6 xG (fun(x:ae)=>f x))] (br R):=by
 refine fc Tryz.func69 I<|bA<|dg<|co<|bN<|bC I<|dr u0 I<|Q (bG hI)<|co<|am<|bE (k:=6) I fun hN=>cc ?_;refine aP (gG (tV:=fun ls i=>(s.drop i=ls)/\dI f ls i=some R) (Of:=fun _ i=>[]) (Gf:=fun _ i=>[(0,jo (aR) s),(1,(gZ aY V6 xG (fun(x:ae)=>f x))),(7,mY s),(8,br (i:Int))]) (fun i h=>?_) (fun e tl ih i h=>?_) s 0 ⟨I,h⟩) (bO I)
 ·obtain⟨D,h⟩:=h
  exact fH D I<|aC<|bA<|iG<|so h▸aT I I
 ·obtain⟨D,h⟩:=h
  refine fG D I<|aE<|am<|aQ I<|bP I<|aQ I<|bC I<|bC I<|xH u0 oF I (d6 D) ?_;refine d5 oF I<|cV h fun r q_r h=>Q (iy (args:=V6) (res:=Gg) (f:=(fun(x:ae)=>f x)) (x:=((e):ae)) (M I) q_r ⟨(M I),J⟩)<|eK h I (fun h=>?_) (fun h=>?_)
  ·exact aQ I<|bF I<|ej<|an<|ej<|so h▸aT I I
  ·refine ck<|eP D hN I ?_;exact bl (aP (ih (i+1) ⟨eg D,h⟩) (bO I))

end Go.Proofs.YtigldkegamffhaaGreatDoor

