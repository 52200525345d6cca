/- cu of this claim: P0. -/
import Derived.Test.YthbdkceckjihgaaGreatDoorBeT
import Derived.Test.YthbdkceckjihgaaGreatDoorBeF
set_option linter.all false
namespace Go.Proofs.YthbdkceckjihgaaGreatDoor
open Go
abbrev aG:=rI .i64
abbrev kq:=Hw (fun y:Bool=>ml y)
abbrev AU:=fun(x:ap)=>[K bh x]
abbrev Fk:=fun(x:aD×Int)=>tT [K ae x.1,ba x.2]
noncomputable abbrev RZ:=gX aO AU Fk (fun(x:ap)=>bk x)
abbrev NN:=fun(mc:ac) (mx:Bool)=>(eZ mc mx).map fun mr=>(mr,mc)
abbrev pt:=(⟨[]⟩:ce)
abbrev Kb:=(⟨(0:Int),(0:Int),(0:Int),[]⟩:bO)
abbrev Cs:=(⟨[116],[]⟩:da)
abbrev Cr:=fun(x:Bool)=>ml x
abbrev GZ:=fun(x:(List Int))=>yC x
abbrev Mc:=fun(x:bp)=>[K cD x]
abbrev yJ:=(⟨[],[],(0:Int)⟩:aN)
abbrev ut:=fun(x:Bool)=>[ml x]
abbrev dO:=T0 aG 3
abbrev Cv:=fun(x:bl)=>[K cr x]
abbrev qX:=(⟨[]⟩:aD)
abbrev xP:=fun(x:bZ)=>K rS x
abbrev j9:=(-1:Int)
abbrev NP:=(⟨[97],(2:Int)⟩:bl)
abbrev G4:=(⟨[],(2:Int),false⟩:lT)
abbrev G3:=fun(x:Unit)=>([]:List Ty)
abbrev Kd:=(⟨[],[],[],[],(0:Int)⟩:aQ)
abbrev Ct:=ek aG
abbrev NO:=fun(x:(List Int))=>K Ct x
abbrev RY:=fun(x:ap×(List Int))=>[K bh x.1,yC x.2]
abbrev G2:=fun(x:Int)=>ba x
abbrev qW:=Yo .i64
abbrev G1:=(⟨[]⟩:aq)
abbrev Kc:=fun(x:Bool)=>K rB x
abbrev UD:=fun(x:ap×(List Int))=>[K bh x.1,K Ct x.2]
abbrev Cu:=([]:List Int)
abbrev RX:=fun(x:Int×Int)=>tT [ba x.1,ba x.2]
abbrev Us:=(⟨[98],(3:Int)⟩:bl)
abbrev UC:=(⟨[116],[NP,Us],[]⟩:bp)
abbrev NM:=fun(x:Bool)=>[K rB x]
abbrev PH:=fun(x:cj)=>[K cB x]
abbrev PG:=fun(x:eh)=>[K cF x]
abbrev UB:=fun(x:aD×Int)=>tT [K ae x.1,K aG x.2]
abbrev RW:=fun(x:al)=>[K aB x]
abbrev UA:=fun(mc:ac) (mx:Unit)=>fW mc
abbrev Uz:=fun(mc:ac) (mx:Unit)=>fL mc
abbrev Uy:=fun(mc:ac) (mx:Unit)=>eM mc
abbrev Ux:=fun(mc:ac) (mx:Unit)=>fM mc
abbrev Uw:=fun(mc:ac) (mx:Unit)=>eN mc
abbrev Uv:=fun(mc:ac) (mx:Unit)=>gu mc
abbrev Uu:=fun(x:Int×Int)=>tT [K aG x.1,K aG x.2]
abbrev RV:=fun(x:ce)=>[K aY x]
abbrev RU:=fun(x:jT)=>[K aU x]
abbrev G0:=o8 aG 2
abbrev Ut:=(⟨[117],[NP],[]⟩:bp)
set_option maxRecDepth 100000

def Nm c{R}(h:ud c=some R):dn aO 131 [K (rI .i32) c] (ml R):=by
 exact eu Tryz.func131 I<|bB<|dA<|ci<|aL I<|af (kj (M I) hI)<|bE I<|aI I (eC I)<|aI I (fun hg=>n5 (db I hg) hI)<|jp I<|bm I<|so h▸aT I I

def QZ s v{R}(h:eb s v=some R):dn aO 99 [iL (rS) s,K rS v] (ba R):=by
 refine eu Tryz.func99 I<|bB<|cz<|ci<|bJ<|bE I<|dN Fi I<|af (bU hI)<|ci<|av<|bF (k:=6) I fun hN=>bY ?_;refine aR (jk (aA:=fun ls i=>(s.drop i=ls)/\dd v ls i=some R) (Of:=fun _ i=>[]) (Gf:=fun _ i=>[(0,iL (rS) s),(1,K rS v),(7,ni s),(8,ba (i:Int))]) (fun i h=>?_) (fun e tl ih i h=>?_) s 0 ⟨I,h⟩) (bI I)
 ·obtain⟨V,h⟩:=h
  exact eQ V I<|aJ<|bB<|gb<|so h▸aT I I
 ·obtain⟨V,h⟩:=h
  refine eP V I<|aM<|av<|aL I<|bH I<|aL I<|bE I<|bE I<|vh Fi oH I (fF V) ?_;refine dM oH I<|af (qd (M I) (M I))<|dY h I (fun h=>?_) (fun h=>?_)
  ·exact aL I<|bm I<|dP<|aw<|dP<|so h▸aT I I
  ·refine co<|eB V hN I ?_;exact bu (aR (ih (i+1) ⟨ee V,h⟩) (bI I))

def Nq s v{R}(h:ej s v=some R):dn aO 100 [iL (rS) s,K rS v] (ml R):=by
 exact eu Tryz.func100 I<|bB<|dA<|ci<|aL I<|bE I<|hU h Xb (QZ _ _) (eS I) fun r h=>af (kj (M I) hI)<|bm I<|so h▸aT I I

def Td s{R}(h:uK s=some R):dn aO 132 [K rS s] (ml R):=by
 exact eu Tryz.func132 I<|bB<|dA<|ci<|bB<|af (GL (r:=o8 rS 28) (x:=U5) gm1 gr1 (Ox Tryz.underlying228 oH I T7))<|bE I<|hU h Ul (Nq _ _) (eS I) fun r h=>bm I<|so h▸aT I I

def Tc s{R}(h:i7 s=some R):dn aO 133 [K rS s] (K rS R):=by
 unfold i7 at h
 split at h
 ·rename_i hl
  cases h
  refine JP fun w hw=>?_
  have:=Any.strings_ToUpper_any tP upX ⟨s.toArray⟩ w (by rw [Nw];exact hl) hw.1 hw.2
  simp only [List.toList_toArray]at this
  exact this
 ·cases h

def Tb c{R}(h:xk c=some R):dn aO 134 [K (rI .i32) c] (ml R):=by
 exact eu Tryz.func134 I<|bB<|dA<|ci<|aL I<|af (kj (M I) hI)<|bE I<|aI I (eC I)<|aI I (fun hg=>n5 (db I hg) hI)<|jp I<|bm I<|so h▸aT I I

def wC s{R}(h:jI s=some R):dn aO 89 [K rS s] (ml R):=by
 refine eu Tryz.func89 I<|bB<|dA<|ci<|bJ<|bE I<|af (qd (M I) hS)<|bE I<|br I (eC I)<|br I (fun hg=>xi ik (db I hg))<|br I (fun hg=>ki (db I hg) hI)<|mp I<|bE I<|cI h fun t q_t h=>br I (eC I) ?_
 obtain⟨b,h1t,h0t⟩:=og q_t
 have q_bg:=fun H=>(h1t H).1
 refine br I (fun hg=>Bi ik (db I hg) hI (q_bg hg))<|br I (fun hg=>Sk Tryz.underlying5 Tryz.underlying21 (db I hg)) ?_
 obtain⟨r,h1t⟩:=U0 (fun H=>(h1t H).2)
 have q_rg:=fun H=>(h1t H).1
 refine br I (fun hg=>bL Uh (Nm _ (q_rg hg)) ⟨(db I hg),J⟩)<|br I (zO I)<|af (fy (M I) (fun H=>(db I (vG H))) (fun H=>(h1t H).2) h0t)<|bE I<|cI h fun t1 q_t1 h=>br I (eC I) ?_
 obtain⟨r1,h1t1,h0t1⟩:=og q_t1
 have q_r1g:=fun H=>(h1t1 H).1
 refine br I (fun hg=>bL XO (Tc _ (q_r1g hg)) ⟨(db I hg),J⟩) ?_
 obtain⟨r2,h1t1⟩:=U0 (fun H=>(h1t1 H).2)
 have q_r2g:=fun H=>(h1t1 H).1
 refine br I (fun hg=>bL XP (Td _ (q_r2g hg)) ⟨(db I hg),J⟩)<|af (fy (M I) (fun H=>(db I (vG H))) (fun H=>(h1t1 H).2) h0t1)<|dY h I (fun h=>?_) (fun h=>?_)
 ·exact bB<|dA<|ie<|aw<|so h▸aT I I
 ·refine nw<|bJ<|bE I<|JR ik (M I) I fun rg=>ci<|av<|bY ?_;refine aR (VU (β:=Int×Int) (aA:=fun ls=>nF ls=some R) (Of:=fun ls=>[Fm rg s ls]) (Gf:=[(25,Q (ai rg 0))]) (fun ls h ih=>?_) (IM s) h) (bI I);refine gR<|bB ?_;refine LN (M I) I (fun hl=>?_) (fun e tl hk=>?_)
  ·subst hl
   exact af (Hu (M I))<|ci<|aM<|qz (M I) I<|gZ<|aH<|aH<|dK<|aJ<|bB<|dA<|ie<|aK<|so h▸aT I I
  ·subst hk
   refine af (yq (i:=0) I (M I))<|ci<|aM<|qy (M I) I<|nw<|av<|bB<|af (yq (i:=2) I (M I))<|bH I<|aL I<|hU h XN (Tb _) (eS I) fun r3 h=>af (nZ (M I))<|bE I<|cI h fun t2 q_t2 h=>aI I (eC I) ?_
   obtain⟨r4,h1t2,h0t2⟩:=og q_t2
   have q_r4g:=fun H=>(h1t2 H).1
   refine aI I (fun hg=>bL Uh (Nm _ (q_r4g hg)) ⟨(db I hg),J⟩)<|aI I (zO I)<|af (cW (M I) (fun H=>(db I H)) (fun H=>(h1t2 H).2) h0t2)<|bE I<|aI I (eC I)<|aI I (BT I)<|jp I<|dY h I (fun h=>?_) (fun h=>?_)
   ·exact bB<|dA<|ie<|dP<|dP<|aK<|so h▸aT I I
   ·refine co<|bR ?_;exact bu (aR (ih tl (by simp) h) (bI I))

def SV s f{R}(h:fq s f=some R):dn aO 203 [iL (cr) s,(gX aO Cv Cr (fun(x:bl)=>f x))] (ba R):=by
 refine eu Tryz.func203 I<|bB<|cz<|ci<|bJ<|bE I<|dN tW I<|af (bU hI)<|ci<|av<|bF (k:=6) I fun hN=>bY ?_;refine aR (jk (aA:=fun ls i=>(s.drop i=ls)/\cq f ls i=some R) (Of:=fun _ i=>[]) (Gf:=fun _ i=>[(0,iL (cr) s),(1,(gX aO Cv Cr (fun(x:bl)=>f x))),(7,ni s),(8,ba (i:Int))]) (fun i h=>?_) (fun e tl ih i h=>?_) s 0 ⟨I,h⟩) (bI I)
 ·obtain⟨V,h⟩:=h
  exact eQ V I<|aJ<|bB<|gb<|so h▸aT I I
 ·obtain⟨V,h⟩:=h
  refine eP V I<|aM<|av<|aL I<|bH I<|aL I<|bE I<|bE I<|vh tW lN I (fF V) ?_;refine dM lN I<|cI h fun r q_r h=>af (iE (args:=Cv) (res:=Kc) (f:=(fun(x:bl)=>f x)) (x:=((e):bl)) (M I) q_r ⟨(M I),J⟩)<|dY h I (fun h=>?_) (fun h=>?_)
  ·exact aL I<|bm I<|dP<|aw<|dP<|so h▸aT I I
  ·refine co<|eB V hN I ?_;exact bu (aR (ih (i+1) ⟨ee V,h⟩) (bI I))

def SU of name p{R}(h:ep of name p=some R):dn aO 204 [K cr p,bn (rT ((gX aO Cv xP (fun(x:bl)=>of x)))) (),bn rS name] (ml R):=by
 refine eu Tryz.func204 I<|bB<|ea I<|dA<|ci<|aM<|cI h fun r q_r h=>?_
 refine ne (ts:=[_,_,_,_,_,_]) mixed I I
  ⟨xQ 1 I I (qr Wm (M I)),
  ⟨xQ 3 I I (ur lN I I),
  ⟨oF 5 0 6 1 I I I (iE (args:=Cv) (res:=xP) (f:=(fun(x:bl)=>of x)) (x:=((p):bl)) (M I) q_r ⟨(M I),J⟩),
  ⟨xQ 2 I I (ur oH I I),
  ⟨oF 7 2 8 3 I I I (qd (M I) (M I)),
  ⟨ka 9 4 I I (FQ I),
  J⟩⟩⟩⟩⟩⟩ ?_
 exact aJ<|zB<|so h▸aT I I

def S8 l of name{R}(h:iT l of name=some R):dn aO 162 [iL (cr) l,(gX aO Cv xP (fun(x:bl)=>of x)),K rS name] (tT [ba R.1,ml R.2]):=by
 refine eu Tryz.func162 I<|bB<|af (MA (M I))<|ea I<|cz<|dA<|ci<|aL I<|af ((show bP _ _ _ _ ((gX aO Cv Cr (fun(x:bl)=>(ep of name) x)))from ou (cts:=[bn (rT ((gX aO Cv xP (fun(x:bl)=>of x)))) (),bn rS name]) (caps:=[.tmp 4,.tmp 5]) Xw ⟨(M I),(M I),J⟩ (fun x y h=>SU _ _ _ h)))<|hU h Xx (SV _ _) (eS I) fun r h=>bH I<|aL I<|af (Ht (M I) hI)<|bE I<|af (kj (M I) hI) ?_;exact lj I<|bm I<|so h▸fj I I I

def Tg l of{R}(h:kU l of=some R):dn aO 126 [iL (cr) l,(gX aO Cv xP (fun(x:bl)=>of x))] (ml R):=by
 refine eu Tryz.func126 I<|bB<|dA<|ci<|bJ<|bE I<|dN tW I<|af (bU hI)<|ci<|av<|bF (k:=9) I fun hN=>bY ?_;refine aR (jk (aA:=fun ls i=>(l.drop i=ls)/\fA l of ls i=some R) (Of:=fun _ i=>[]) (Gf:=fun _ i=>[(0,iL (cr) l),(1,(gX aO Cv xP (fun(x:bl)=>of x))),(9,iL (cr) l),(10,ni l),(11,ba (i:Int))]) (fun i h=>?_) (fun e tl ih i h=>?_) l 0 ⟨I,h⟩) (bI I)
 ·obtain⟨V,h⟩:=h
  exact eQ V I<|aJ<|bB<|dA<|ie<|so h▸aT I I
 ·obtain⟨V,h⟩:=h
  refine eP V I<|aM<|av<|aL I<|jB tW lN I (fF V)<|aW lN pD I fun b=>lj I<|cm lN am I<|aX 6 I<|ci<|aM ?_;refine bg<|bE I<|bE I<|bE I<|dM lN I<|cI h fun r q_r h=>af (iE (args:=Cv) (res:=xP) (f:=(fun(x:bl)=>of x)) (x:=((e):bl)) (M I) q_r ⟨(M I),J⟩)<|hU h XK (S8 _ _ _) (eS I) fun r1 h=>bE I<|dX I I<|dX I I<|lj I<|bH I<|aL I<|bE I<|af (lw (M I) (M I))<|bE I<|cI h fun t q_t h=>br I (eC I) ?_;refine br I (fun hg=>ur lN I I) ?_
  obtain⟨r2,h1t,h0t⟩:=og q_t
  have q_r2g:=fun H=>(h1t H).1
  refine br I (fun hg=>iE (args:=Cv) (res:=xP) (f:=(fun(x:bl)=>of x)) (x:=((e):bl)) (db I hg) (q_r2g hg) ⟨(db I hg),J⟩) ?_
  obtain⟨r3,h1t⟩:=U0 (fun H=>(h1t H).2)
  have q_r3g:=fun H=>(h1t H).1
  refine br I (fun hg=>bL JI (wC _ (q_r3g hg)) ⟨(db I hg),J⟩)<|br I (zO I)<|af (fy (M I) (fun H=>(db I (vG H))) (fun H=>(h1t H).2) h0t)<|dY h I (fun h=>?_) (fun h=>?_)
  ·exact bB<|dA<|ie<|dP<|aw<|dP<|so h▸aT I I
  ·refine co<|eB V hN I ?_;exact bu (aR (ih (i+1) ⟨ee V,h⟩) (bI I))

def Tf c{R}(h:ew c=some R):dn aO 127 [K cr c] (K rS R):=by
 exact eu Tryz.func127 I<|bB<|ea I<|af (cy hS)<|ci<|bB<|cK Ap qt oH I<|bm I<|so h▸aT I I

def Te kind{R}(h:rr kind=some R):dn aO 128 [ba kind] (K rS R):=by
 refine eu Tryz.func128 I<|bB<|af (cy hS)<|ci<|bJ<|af (GL (r:=(o8 wZ 3)) (x:=U6) gm0 gr0 (nO Wk I I T7))<|af (bU hI)<|ci<|av<|bY ?_;refine aR (NH (aA:=fun k i=>(3-i=k)/\jb kind k i=some R) (Of:=fun _ i=>[]) (Gf:=fun _ i=>[(0,ba kind),(5,K (o8 wZ 3) U6),(6,ba (i:Int))]) (fun i h=>?_) (fun k1 ih i h=>?_) 3 0 ⟨I,h⟩) (bI I)
 ·obtain⟨V,h⟩:=h
  exact gR<|bB<|af (jn (M I) hI)<|ci<|aM<|qz (M I) (Qz V)<|gZ<|aH<|aH<|dK<|aJ<|bB<|af (cy hS)<|ie<|so h▸aT I I
 ·obtain⟨V,h⟩:=h
  refine gR<|bB<|af (jn (M I) hI)<|ci<|aM<|qy (M I) (Qy V)<|nw<|aM<|av<|bB<|cI h fun e1 q_e1 h=>af (xj Tryz.underlying227 PP I I (M I) (M I) q_e1)<|aW PP RT I fun b=>cm PP am I<|aX 4 I<|ci<|bB<|yc SA OT I ?_;refine dM dC I<|bE I<|af (qe (M I) (M I))<|dY h I (fun h=>?_) (fun h=>?_)
  ·exact bB<|cK SB OU oH I<|bm I<|dP<|aw<|dP<|so h▸aT I I
  ·refine co<|bR<|aJ<|bg<|af (uG (OD V (by decide)) (M I) hI)<|bE I<|bN ?_;exact bu (aR (ih (i+1) ⟨OC V,h⟩) (bI I))

def Vo t{R}(h:lJ t=some R):dn aO 84 [K cD t] (ba R):=by
 refine eu Tryz.func84 I<|bB<|ea I<|cz<|ci<|bB<|cK Nc Eu oH I<|hU h JI (wC _) (eS I) fun r h=>bE I<|aI I (fE ro mJ I I)<|aI I (eE zQ I I)<|aI I (vk tW I)<|aI I (fun hg=>kj (db I hg) hI)<|jp I<|bE I<|aI I (fE ro mJ I I)<|aI I (eE zQ I I)<|aI I (vk tW I)<|aI I (fun hg=>n5 (db I hg) hI) ?_;refine jp I<|bE I<|cI h fun t1 q_t1 h=>aI I (fE ro mJ I I)<|aI I (eE zQ I I) ?_
 obtain⟨r1,h1t1,h0t1⟩:=og q_t1
 have q_r1g:=fun H=>(h1t1 H).1
 refine aI I (fun hg=>bL XS (Tg _ _ (q_r1g hg)) ⟨(db I hg),(U4 XR fun x y h=>Tf _ h),J⟩)<|af (cW (M I) (fun H=>(db I H)) (fun H=>(h1t1 H).2) h0t1)<|bH I<|bJ<|cK ro mJ zQ I<|dN tW I<|af (bU hI)<|ci<|av<|bF (k:=29) I fun hN=>bY ?_;refine aR (gM (aA:=fun ls i ok=>(t.Columns.drop i=ls)/\f6 t ls ok=some R) (Of:=fun _ i ok=>[]) (Gf:=fun _ i ok=>[(1,bn cD t),(3,ml ok),(29,iL (cr) t.Columns),(30,ni t.Columns),(31,ba (i:Int))]) (fun i ok h=>?_) (fun e tl ih i ok h=>?_) t.Columns 0 t1 ⟨I,h⟩) (bI I)
 ·obtain⟨V,h⟩:=h
  refine eQ V I<|aJ<|bJ<|cK C2 zf kc I<|dN iO I<|af (bU hI)<|ci<|av<|bF (k:=44) I fun hN1=>?_;refine bY ?_;refine aR (gM (aA:=fun ls1 i1 ok1=>(t.Keys.drop i1=ls1)/\eX t ls1 i1 ok1=some R) (Of:=fun _ i1 ok1=>[]) (Gf:=fun _ i1 ok1=>[(1,bn cD t),(3,ml ok1),(44,yC t.Keys),(45,ni t.Keys),(46,ba (i1:Int))]) (fun i1 ok1 h=>?_) (fun e1 tl1 ih1 i1 ok1 h=>?_) t.Keys 0 ok ⟨I,h⟩) (bI I)
  ·obtain⟨hx1,h⟩:=h
   refine eQ hx1 I<|aJ<|bJ<|bE I<|af (nZ (M I))<|dY h I (fun h=>?_) (fun h=>?_)
   ·exact bB<|gb<|aw<|so h▸aT I I
   ·exact nw<|bB<|gb<|so h▸aT I I
  ·obtain⟨hx1,h⟩:=h
   refine eP hx1 I<|aM<|av<|aL I<|jB iO dC I (fF hx1)<|lj I<|bH I<|bg<|bE I<|bE I ?_;refine aI I (eC I)<|aI I (fun hg=>kj (db I hg) hI)<|jp I<|bE I<|aI I (eC I)<|aI I (fE ro mJ I I)<|aI I (eE zQ I I)<|aI I (vk tW I)<|aI I (fun hg=>jn (db I hg) (db I hg))<|jp I<|bE I<|cI h fun t2 q_t2 h=>aI I (eC I)<|aI I (oK I)<|aI I (vj I) ?_
   obtain⟨t3,h1t2,h0t2⟩:=og q_t2
   have q_t3g:=fun H=>(h1t2 H).1
   refine gL I I I I (fun hg=>yb C2 zf I I)<|gL I I I I (fun hg=>nO kc I I (db I hg))<|gL I I I I (fun hg=>jz I)<|gL I I I I (fun hg=>o9 (db I hg) hI) ?_
   obtain⟨e2,h1t3,h0t3⟩:=Wu q_t3g
   have q_e2g:=fun H=>(h1t3 H).1
   refine gL I I I I (fun hg=>iq iO dC I (db I hg) (db I hg) (q_e2g hg))<|gL I I I I (fun hg=>nO dC I I (db I hg))<|gL I I I I (fun hg=>jz I)<|gL I I I I (fun hg=>jn (db I hg) (db I hg))<|aI I (fun hg=>fy (db I hg) (fun H=>(db I (vK hg (vG H)))) (fun H=>(h1t3 (vK hg H)).2) (fun H=>h0t3 hg H))<|af (cW (M I) (fun H=>(db I H)) (fun H=>(h1t2 H).2) h0t2)<|lj I<|bN<|eB hx1 hN1 I ?_;exact bu (aR (ih1 (i1+1) t2 ⟨ee hx1,h⟩) (bI I))
 ·obtain⟨V,h⟩:=h
  refine eP V I<|aM<|av<|bB<|jB tW lN I (fF V)<|aW lN pD I fun b=>cm lN am I<|aX 5 I<|ci<|bg<|bE I<|bE I ?_;refine cI h fun t4 q_t4 h=>aI I (fE Nb Ch I I)<|aI I (eE dC I I) ?_
  obtain⟨r2,h1t4,h0t4⟩:=og q_t4
  have q_r2g:=fun H=>(h1t4 H).1
  refine aI I (fun hg=>bL XQ (Te _ (q_r2g hg)) ⟨(db I hg),J⟩)<|aI I (fun hg=>CW (db I hg) hS)<|af (cW (M I) (fun H=>(db I H)) (fun H=>(h1t4 H).2) h0t4)<|lj I<|bN<|eB V hN I ?_;exact bu (aR (ih (i+1) t4 ⟨ee V,h⟩) (bI I))

def Vp t{R}(h:jX t=some R):dn aO 83 [K cD t] (ml R):=by
 exact eu Tryz.func83 I<|bB<|ea I<|dA<|ci<|bB<|dM mq I<|hU h YS (Vo _) (eS I) fun r h=>lk I<|bm I<|so h▸aT I I

def No s f{R}(h:cM s f=some R):dn aO 129 [iL (cD) s,(gX aO Mc Cr (fun(x:bp)=>f x))] (ba R):=by
 refine eu Tryz.func129 I<|bB<|cz<|ci<|bJ<|bE I<|dN vP I<|af (bU hI)<|ci<|av<|bF (k:=6) I fun hN=>bY ?_;refine aR (jk (aA:=fun ls i=>(s.drop i=ls)/\bj f ls i=some R) (Of:=fun _ i=>[]) (Gf:=fun _ i=>[(0,iL (cD) s),(1,(gX aO Mc Cr (fun(x:bp)=>f x))),(7,ni s),(8,ba (i:Int))]) (fun i h=>?_) (fun e tl ih i h=>?_) s 0 ⟨I,h⟩) (bI I)
 ·obtain⟨V,h⟩:=h
  exact eQ V I<|aJ<|bB<|gb<|so h▸aT I I
 ·obtain⟨V,h⟩:=h
  refine eP V I<|aM<|av<|aL I<|bH I<|aL I<|bE I<|bE I<|vh vP mq I (fF V) ?_;refine dM mq I<|cI h fun r q_r h=>af (iE (args:=Mc) (res:=Kc) (f:=(fun(x:bp)=>f x)) (x:=((e):bp)) (M I) q_r ⟨(M I),J⟩)<|dY h I (fun h=>?_) (fun h=>?_)
  ·exact aL I<|bm I<|dP<|aw<|dP<|so h▸aT I I
  ·refine co<|eB V hN I ?_;exact bu (aR (ih (i+1) ⟨ee V,h⟩) (bI I))

def Vn s f{R}(h:fb s f=some R):dn aO 85 [iL (cD) s,(gX aO Mc Cr (fun(x:bp)=>f x))] (ml R):=by
 exact eu Tryz.func85 I<|bB<|dA<|ci<|aL I<|bE I<|hU h Uj (No _ _) (eS I) fun r h=>af (kj (M I) hI)<|bm I<|so h▸aT I I

def S7 of name p{R}(h:du of name p=some R):dn aO 163 [K cD p,bn (rT ((gX aO Mc xP (fun(x:bp)=>of x)))) (),bn rS name] (ml R):=by
 refine eu Tryz.func163 I<|bB<|ea I<|dA<|ci<|aM<|cI h fun r q_r h=>?_
 refine ne (ts:=[_,_,_,_,_,_]) mixed I I
  ⟨xQ 1 I I (qr Wo (M I)),
  ⟨xQ 3 I I (ur mq I I),
  ⟨oF 5 0 6 1 I I I (iE (args:=Mc) (res:=xP) (f:=(fun(x:bp)=>of x)) (x:=((p):bp)) (M I) q_r ⟨(M I),J⟩),
  ⟨xQ 2 I I (ur oH I I),
  ⟨oF 7 2 8 3 I I I (qd (M I) (M I)),
  ⟨ka 9 4 I I (FQ I),
  J⟩⟩⟩⟩⟩⟩ ?_
 exact aJ<|zB<|so h▸aT I I

def Nn l of name{R}(h:fK l of name=some R):dn aO 130 [iL (cD) l,(gX aO Mc xP (fun(x:bp)=>of x)),K rS name] (tT [ba R.1,ml R.2]):=by
 refine eu Tryz.func130 I<|bB<|af (MA (M I))<|ea I<|cz<|dA<|ci<|aL I<|af ((show bP _ _ _ _ ((gX aO Mc Cr (fun(x:bp)=>(du of name) x)))from ou (cts:=[bn (rT ((gX aO Mc xP (fun(x:bp)=>of x)))) (),bn rS name]) (caps:=[.tmp 4,.tmp 5]) XJ ⟨(M I),(M I),J⟩ (fun x y h=>S7 _ _ _ h)))<|hU h Uj (No _ _) (eS I) fun r h=>bH I<|aL I<|af (Ht (M I) hI)<|bE I<|af (kj (M I) hI) ?_;exact lj I<|bm I<|so h▸fj I I I

def Vm l of{R}(h:lI l of=some R):dn aO 86 [iL (cD) l,(gX aO Mc xP (fun(x:bp)=>of x))] (ml R):=by
 refine eu Tryz.func86 I<|bB<|dA<|ci<|bJ<|bE I<|dN vP I<|af (bU hI)<|ci<|av<|bF (k:=9) I fun hN=>bY ?_;refine aR (jk (aA:=fun ls i=>(l.drop i=ls)/\fR l of ls i=some R) (Of:=fun _ i=>[]) (Gf:=fun _ i=>[(0,iL (cD) l),(1,(gX aO Mc xP (fun(x:bp)=>of x))),(9,iL (cD) l),(10,ni l),(11,ba (i:Int))]) (fun i h=>?_) (fun e tl ih i h=>?_) l 0 ⟨I,h⟩) (bI I)
 ·obtain⟨V,h⟩:=h
  exact eQ V I<|aJ<|bB<|dA<|ie<|so h▸aT I I
 ·obtain⟨V,h⟩:=h
  refine eP V I<|aM<|av<|aL I<|jB vP mq I (fF V)<|aW mq zN I fun b=>lj I<|cm mq am I<|aX 6 I<|ci<|aM ?_;refine bg<|bE I<|bE I<|bE I<|dM mq I<|cI h fun r q_r h=>af (iE (args:=Mc) (res:=xP) (f:=(fun(x:bp)=>of x)) (x:=((e):bp)) (M I) q_r ⟨(M I),J⟩)<|hU h Ui (Nn _ _ _) (eS I) fun r1 h=>bE I<|dX I I<|dX I I<|lj I<|bH I<|aL I<|bE I<|af (lw (M I) (M I))<|bE I<|cI h fun t q_t h=>br I (eC I) ?_;refine br I (fun hg=>ur mq I I) ?_
  obtain⟨r2,h1t,h0t⟩:=og q_t
  have q_r2g:=fun H=>(h1t H).1
  refine br I (fun hg=>iE (args:=Mc) (res:=xP) (f:=(fun(x:bp)=>of x)) (x:=((e):bp)) (db I hg) (q_r2g hg) ⟨(db I hg),J⟩) ?_
  obtain⟨r3,h1t⟩:=U0 (fun H=>(h1t H).2)
  have q_r3g:=fun H=>(h1t H).1
  refine br I (fun hg=>bL JI (wC _ (q_r3g hg)) ⟨(db I hg),J⟩)<|br I (zO I)<|af (fy (M I) (fun H=>(db I (vG H))) (fun H=>(h1t H).2) h0t)<|dY h I (fun h=>?_) (fun h=>?_)
  ·exact bB<|dA<|ie<|dP<|aw<|dP<|so h▸aT I I
  ·refine co<|eB V hN I ?_;exact bu (aR (ih (i+1) ⟨ee V,h⟩) (bI I))

def Q3 t{R}(h:dz t=some R):dn aO 87 [K cD t] (K rS R):=by
 exact eu Tryz.func87 I<|bB<|ea I<|af (cy hS)<|ci<|bB<|cK Nc Eu oH I<|bm I<|so h▸aT I I

def VA c{R}(h:qi c=some R):dn aO 38 [K bX c] (ba R):=by
 refine eu Tryz.func38 I<|bB<|ea I<|cz<|ci<|bB<|af (cy (show aE _ _ _ ((gX aO Mc Cr (fun(x:bp)=>jX x)))from(U4 YT fun x y h=>Vp _ h)))<|ci<|bJ<|cK tM lC Dq I<|dN vP I<|af (ki (M I) hI)<|bE I<|cI h fun t q_t h=>br I (fE tM lC I I)<|br I (eE Dq I I)<|br I (eC I) ?_
 obtain⟨r,h1t,h0t⟩:=og q_t
 have q_rg:=fun H=>(h1t H).1
 refine br I (fun hg=>bL YR (Vn _ _ (q_rg hg)) ⟨(db I hg),(db I hg),J⟩)<|af (fy (M I) (fun H=>(db I (vG H))) (fun H=>(h1t H).2) h0t)<|bE I<|cI h fun t1 q_t1 h=>br I (fE tM lC I I)<|br I (eE Dq I I) ?_
 obtain⟨r1,h1t1,h0t1⟩:=og q_t1
 have q_r1g:=fun H=>(h1t1 H).1
 refine br I (fun hg=>bL YQ (Vm _ _ (q_r1g hg)) ⟨(db I hg),(U4 Xd fun x y h=>Q3 _ h),J⟩)<|br I (zO I)<|af (fy (M I) (fun H=>(db I (vG H))) (fun H=>(h1t1 H).2) h0t1)<|dY h I (fun h=>?_) (fun h=>?_)
 ·exact bB<|gb<|aw<|so h▸aT I I
 ·exact nw<|bB<|gb<|so h▸aT I I

def Q0 n{R}(h:sr n=some R):dn aO 88 [ba n] (ml R):=by
 exact eu Tryz.func88 I<|bB<|dA<|ci<|aL I<|af (kj (M I) hI)<|bE I<|aI I (eC I)<|aI I (fun hg=>n5 (db I hg) hI)<|jp I<|bm I<|so h▸aT I I

def Ta s f{R}(h:fm s f=some R):dn aO 135 [iL (aB) s,(gX aO RW Cr (fun(x:al)=>f x))] (ba R):=by
 refine eu Tryz.func135 I<|bB<|cz<|ci<|bJ<|bE I<|dN sF I<|af (bU hI)<|ci<|av<|bF (k:=6) I fun hN=>bY ?_;refine aR (jk (aA:=fun ls i=>(s.drop i=ls)/\cP f ls i=some R) (Of:=fun _ i=>[]) (Gf:=fun _ i=>[(0,iL (aB) s),(1,(gX aO RW Cr (fun(x:al)=>f x))),(7,ni s),(8,ba (i:Int))]) (fun i h=>?_) (fun e tl ih i h=>?_) s 0 ⟨I,h⟩) (bI I)
 ·obtain⟨V,h⟩:=h
  exact eQ V I<|aJ<|bB<|gb<|so h▸aT I I
 ·obtain⟨V,h⟩:=h
  refine eP V I<|aM<|av<|aL I<|bH I<|aL I<|bE I<|bE I<|vh sF np I (fF V) ?_;refine dM np I<|cI h fun r q_r h=>af (iE (args:=RW) (res:=Kc) (f:=(fun(x:al)=>f x)) (x:=((e):al)) (M I) q_r ⟨(M I),J⟩)<|dY h I (fun h=>?_) (fun h=>?_)
  ·exact aL I<|bm I<|dP<|aw<|dP<|so h▸aT I I
  ·refine co<|eB V hN I ?_;exact bu (aR (ih (i+1) ⟨ee V,h⟩) (bI I))

end Go.Proofs.YthbdkceckjihgaaGreatDoor

