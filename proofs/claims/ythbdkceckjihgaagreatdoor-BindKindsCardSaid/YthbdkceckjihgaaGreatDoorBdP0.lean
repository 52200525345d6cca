/- cm of this claim: P0. -/
import Derived.Test.YthbdkceckjihgaaGreatDoorBdT
import Derived.Test.YthbdkceckjihgaaGreatDoorBdF
set_option linter.all false
namespace Go.Proofs.YthbdkceckjihgaaGreatDoor
open Go
abbrev Q:=rI .i64
abbrev ke:=F4 (fun y:Bool=>lx y)
abbrev zm:=fun(x:ap)=>[K bh x]
abbrev DU:=fun(x:aB×Int)=>tT [K ae x.1,aW x.2]
noncomputable abbrev Qm:=gn aQ zm DU (fun(x:ap)=>bm x)
abbrev LY:=fun(mc:ac) (mx:Bool)=>(eU mc mx).map fun mr=>(mr,mc)
abbrev ox:=(⟨[]⟩:cy)
abbrev IU:=(⟨(0:Int),(0:Int),(0:Int),[]⟩:bZ)
abbrev xY:=fun(x:Bool)=>lx x
abbrev A6:=(⟨[116],[]⟩:dj)
abbrev Fx:=fun(x:(List Int))=>qq x
abbrev KG:=fun(x:bH)=>[K cA x]
abbrev sY:=fun(x:Bool)=>[lx x]
abbrev ya:=(⟨[],[],(0:Int)⟩:bD)
abbrev dV:=Sr Q 3
abbrev A8:=fun(x:bp)=>[K cj x]
abbrev pW:=(⟨[]⟩:aB)
abbrev wc:=fun(x:cB)=>K rS x
abbrev j4:=(-1:Int)
abbrev L0:=(⟨[97],(2:Int)⟩:bp)
abbrev FD:=(⟨[],(2:Int),false⟩:tW)
abbrev FB:=fun(x:Unit)=>([]:List Ty)
abbrev IV:=(⟨[],[],[],[],(0:Int)⟩:bQ)
abbrev A7:=eF Q
abbrev LZ:=fun(x:(List Int))=>K A7 x
abbrev Ql:=fun(x:ap×(List Int))=>[K bh x.1,qq x.2]
abbrev FA:=fun(x:Int)=>aW x
abbrev G0:=fun(x:Bool)=>K rB x
abbrev pV:=WZ .i64
abbrev xZ:=([]:List Int)
abbrev Fz:=(⟨[]⟩:au)
abbrev S7:=fun(x:ap×(List Int))=>[K bh x.1,K A7 x.2]
abbrev Qk:=fun(x:Int×Int)=>tT [aW x.1,aW x.2]
abbrev SU:=(⟨[98],(3:Int)⟩:bp)
abbrev S6:=(⟨[116],[L0,SU],[]⟩:bH)
abbrev LX:=fun(x:Bool)=>[K rB x]
abbrev NV:=fun(x:cw)=>[K cz x]
abbrev NU:=fun(x:eG)=>[K dC x]
abbrev S5:=fun(x:aB×Int)=>tT [K ae x.1,K Q x.2]
abbrev Qj:=fun(x:ay)=>[K bb x]
abbrev S4:=fun(mc:ac) (mx:Unit)=>fL mc
abbrev S3:=fun(mc:ac) (mx:Unit)=>fA mc
abbrev S2:=fun(mc:ac) (mx:Unit)=>eK mc
abbrev SZ:=fun(mc:ac) (mx:Unit)=>fB mc
abbrev SY:=fun(mc:ac) (mx:Unit)=>eM mc
abbrev SX:=fun(mc:ac) (mx:Unit)=>gj mc
abbrev SW:=fun(x:Int×Int)=>tT [K Q x.1,K Q x.2]
abbrev Qi:=fun(x:cy)=>[K bt x]
abbrev Qh:=fun(x:jJ)=>[K aR x]
abbrev Fy:=n8 Q 2
abbrev Qg:=fun(x:Int)=>[aW x]
abbrev SV:=(⟨[117],[L0],[]⟩:bH)
set_option maxRecDepth 100000

def Ly c{R}(h:sH c=some R):de aQ 131 [K (rI .i32) c] (lx R):=by
 exact ec Tryz.func131 I<|bl<|cS<|bX<|aI I<|af (iU (M I) hI)<|bo I<|aG I (d7 I)<|aG I (fun hg=>nt (cC I hg) hI)<|im I<|a8 I<|so h▸aL I I

def Pe s v{R}(h:ed s v=some R):de aQ 99 [hM (rS) s,K rS v] (aW R):=by
 refine ec Tryz.func99 I<|bl<|cv<|bX<|bv<|bo I<|cR BO I<|af (bL hI)<|bX<|aq<|aY (k:=6) I fun hN=>bO ?_;refine aO (fU (aA:=fun ls i=>(s.drop i=ls)/\cX v ls i=some R) (Of:=fun _ i=>[]) (Gf:=fun _ i=>[(0,hM (rS) s),(1,K rS v),(7,kO s),(8,aW (i:Int))]) (fun i h=>?_) (fun e tl ih i h=>?_) s 0 ⟨I,h⟩) (bu I)
 ·obtain⟨D,h⟩:=h
  exact ea D I<|aJ<|bl<|fN<|so h▸aL I I
 ·obtain⟨D,h⟩:=h
  refine d9 D I<|aN<|aq<|aI I<|bw I<|aI I<|bo I<|bo I<|re BO nR I (ei D) ?_;refine dk nR I<|af (pb (M I) (M I))<|dl h I (fun h=>?_) (fun h=>?_)
  ·exact aI I<|a8 I<|cQ<|ai<|cQ<|so h▸aL I I
  ·refine bT<|dQ D hN I ?_;exact bf (aO (ih (i+1) ⟨dJ D,h⟩) (bu I))

def LC s v{R}(h:eo s v=some R):de aQ 100 [hM (rS) s,K rS v] (lx R):=by
 exact ec Tryz.func100 I<|bl<|cS<|bX<|aI I<|bo I<|f9 h VO (Pe _ _) (dU I) fun r h=>af (iU (M I) hI)<|a8 I<|so h▸aL I I

def RH s{R}(h:tf s=some R):de aQ 132 [K rS s] (lx R):=by
 exact ec Tryz.func132 I<|bl<|cS<|bX<|bl<|af (Fj (r:=n8 rS 28) (x:=Vq) gm1 gr1 (MG Tryz.underlying228 nR I Sy))<|bo I<|f9 h SN (LC _ _) (dU I) fun r h=>a8 I<|so h▸aL I I

def RF s{R}(h:iQ s=some R):de aQ 133 [K rS s] (K rS R):=by
 unfold iQ at h
 split at h
 ·rename_i hl
  cases h
  refine IB fun w hw=>?_
  have:=Any.strings_ToUpper_any sl upX ⟨s.toArray⟩ w (by rw [LK];exact hl) hw.1 hw.2
  simp only [List.toList_toArray]at this
  exact this
 ·cases h

def RE c{R}(h:vI c=some R):de aQ 134 [K (rI .i32) c] (lx R):=by
 exact ec Tryz.func134 I<|bl<|cS<|bX<|aI I<|af (iU (M I) hI)<|bo I<|aG I (d7 I)<|aG I (fun hg=>nt (cC I hg) hI)<|im I<|a8 I<|so h▸aL I I

def va s{R}(h:jC s=some R):de aQ 89 [K rS s] (lx R):=by
 refine ec Tryz.func89 I<|bl<|cS<|bX<|bv<|bo I<|af (pb (M I) hS)<|bo I<|aM I (d7 I)<|aM I (fun hg=>vG hY (cC I hg))<|aM I (fun hg=>jA (cC I hg) hI)<|kf I<|bo I<|cL h fun t q_t h=>aM I (d7 I) ?_
 obtain⟨b,h1t,h0t⟩:=og q_t
 have q_bg:=fun H=>(h1t H).1
 refine aM I (fun hg=>zN hY (cC I hg) hI (q_bg hg))<|aM I (fun hg=>QJ Tryz.underlying5 Tryz.underlying21 (cC I hg)) ?_
 obtain⟨r,h1t⟩:=Tx (fun H=>(h1t H).2)
 have q_rg:=fun H=>(h1t H).1
 refine aM I (fun hg=>bN SJ (Ly _ (q_rg hg)) ⟨(cC I hg),J⟩)<|aM I (uA I)<|af (ef (M I) (fun H=>(cC I (rd H))) (fun H=>(h1t H).2) h0t)<|bo I<|cL h fun t1 q_t1 h=>aM I (d7 I) ?_
 obtain⟨r1,h1t1,h0t1⟩:=og q_t1
 have q_r1g:=fun H=>(h1t1 H).1
 refine aM I (fun hg=>bN Wo (RF _ (q_r1g hg)) ⟨(cC I hg),J⟩) ?_
 obtain⟨r2,h1t1⟩:=Tx (fun H=>(h1t1 H).2)
 have q_r2g:=fun H=>(h1t1 H).1
 refine aM I (fun hg=>bN Wp (RH _ (q_r2g hg)) ⟨(cC I hg),J⟩)<|af (ef (M I) (fun H=>(cC I (rd H))) (fun H=>(h1t1 H).2) h0t1)<|dl h I (fun h=>?_) (fun h=>?_)
 ·exact bl<|cS<|fR<|ai<|so h▸aL I I
 ·refine lW<|bv<|bo I<|ID hY (M I) I fun rg=>bX<|aq<|bO ?_;refine aO (UE (β:=Int×Int) (aA:=fun ls=>m8 ls=some R) (Of:=fun ls=>[DZ rg s ls]) (Gf:=[(25,tV (ak rg 0))]) (fun ls h ih=>?_) (Ht s) h) (bu I);refine gJ<|bl ?_;refine Kk (M I) I (fun hl=>?_) (fun e tl hk=>?_)
  ·subst hl
   exact af (F2 (M I))<|bX<|aN<|pE (M I) I<|gL<|aH<|aH<|dP<|aJ<|bl<|cS<|fR<|aP<|so h▸aL I I
  ·subst hk
   refine af (wz (i:=0) I (M I))<|bX<|aN<|pD (M I) I<|lW<|aq<|bl<|af (wz (i:=2) I (M I))<|bw I<|aI I<|f9 h Wn (RE _) (dU I) fun r3 h=>af (mT (M I))<|bo I<|cL h fun t2 q_t2 h=>aG I (d7 I) ?_
   obtain⟨r4,h1t2,h0t2⟩:=og q_t2
   have q_r4g:=fun H=>(h1t2 H).1
   refine aG I (fun hg=>bN SJ (Ly _ (q_r4g hg)) ⟨(cC I hg),J⟩)<|aG I (uA I)<|af (cU (M I) (fun H=>(cC I H)) (fun H=>(h1t2 H).2) h0t2)<|bo I<|aG I (d7 I)<|aG I (AC I)<|im I<|dl h I (fun h=>?_) (fun h=>?_)
   ·exact bl<|cS<|fR<|cQ<|cQ<|aP<|so h▸aL I I
   ·refine bT<|ca ?_;exact bf (aO (ih tl (by simp) h) (bu I))

def Rq s f{R}(h:fc s f=some R):de aQ 203 [hM (cj) s,(gn aQ A8 xY (fun(x:bp)=>f x))] (aW R):=by
 refine ec Tryz.func203 I<|bl<|cv<|bX<|bv<|bo I<|cR ra I<|af (bL hI)<|bX<|aq<|aY (k:=6) I fun hN=>bO ?_;refine aO (fU (aA:=fun ls i=>(s.drop i=ls)/\cq f ls i=some R) (Of:=fun _ i=>[]) (Gf:=fun _ i=>[(0,hM (cj) s),(1,(gn aQ A8 xY (fun(x:bp)=>f x))),(7,kO s),(8,aW (i:Int))]) (fun i h=>?_) (fun e tl ih i h=>?_) s 0 ⟨I,h⟩) (bu I)
 ·obtain⟨D,h⟩:=h
  exact ea D I<|aJ<|bl<|fN<|so h▸aL I I
 ·obtain⟨D,h⟩:=h
  refine d9 D I<|aN<|aq<|aI I<|bw I<|aI I<|bo I<|bo I<|re ra kg I (ei D) ?_;refine dk kg I<|cL h fun r q_r h=>af (gN (args:=A8) (res:=G0) (f:=(fun(x:bp)=>f x)) (x:=((e):bp)) (M I) q_r ⟨(M I),J⟩)<|dl h I (fun h=>?_) (fun h=>?_)
  ·exact aI I<|a8 I<|cQ<|ai<|cQ<|so h▸aL I I
  ·refine bT<|dQ D hN I ?_;exact bf (aO (ih (i+1) ⟨dJ D,h⟩) (bu I))

def Ro of name p{R}(h:eu of name p=some R):de aQ 204 [K cj p,aU (rT ((gn aQ A8 wc (fun(x:bp)=>of x)))) (),aU rS name] (lx R):=by
 refine ec Tryz.func204 I<|bl<|d6 I<|cS<|bX<|aN<|cL h fun r q_r h=>?_
 refine lU (ts:=[_,_,_,_,_,_]) mixed I I
  ⟨AA 1 I I (pu U7 (M I)),
  ⟨AA 3 I I (sX kg I I),
  ⟨nP 5 0 6 1 I I I (gN (args:=A8) (res:=wc) (f:=(fun(x:bp)=>of x)) (x:=((p):bp)) (M I) q_r ⟨(M I),J⟩),
  ⟨AA 2 I I (sX nR I I),
  ⟨nP 7 2 8 3 I I I (pb (M I) (M I)),
  ⟨ly 9 4 I I (DN I),
  J⟩⟩⟩⟩⟩⟩ ?_
 exact aJ<|xH<|so h▸aL I I

def RB l of name{R}(h:iI l of name=some R):de aQ 162 [hM (cj) l,(gn aQ A8 wc (fun(x:bp)=>of x)),K rS name] (tT [aW R.1,lx R.2]):=by
 refine ec Tryz.func162 I<|bl<|af (K8 (M I))<|d6 I<|cv<|cS<|bX<|aI I<|af ((show bM _ _ _ _ ((gn aQ A8 xY (fun(x:bp)=>(eu of name) x)))from mg (cts:=[aU (rT ((gn aQ A8 wc (fun(x:bp)=>of x)))) (),aU rS name]) (caps:=[.tmp 4,.tmp 5]) V5 ⟨(M I),(M I),J⟩ (fun x y h=>Ro _ _ _ h)))<|f9 h V6 (Rq _ _) (dU I) fun r h=>bw I<|aI I<|af (F1 (M I) hI)<|bo I<|af (iU (M I) hI) ?_;exact j3 I<|a8 I<|so h▸eC I I I

def RK l of{R}(h:kF l of=some R):de aQ 126 [hM (cj) l,(gn aQ A8 wc (fun(x:bp)=>of x))] (lx R):=by
 refine ec Tryz.func126 I<|bl<|cS<|bX<|bv<|bo I<|cR ra I<|af (bL hI)<|bX<|aq<|aY (k:=9) I fun hN=>bO ?_;refine aO (fU (aA:=fun ls i=>(l.drop i=ls)/\fh l of ls i=some R) (Of:=fun _ i=>[]) (Gf:=fun _ i=>[(0,hM (cj) l),(1,(gn aQ A8 wc (fun(x:bp)=>of x))),(9,hM (cj) l),(10,kO l),(11,aW (i:Int))]) (fun i h=>?_) (fun e tl ih i h=>?_) l 0 ⟨I,h⟩) (bu I)
 ·obtain⟨D,h⟩:=h
  exact ea D I<|aJ<|bl<|cS<|fR<|so h▸aL I I
 ·obtain⟨D,h⟩:=h
  refine d9 D I<|aN<|aq<|aI I<|gp ra kg I (ei D)<|aV kg nC I fun b=>j3 I<|cn kg al I<|aS 6 I<|bX<|aN ?_;refine bd<|bo I<|bo I<|bo I<|dk kg I<|cL h fun r q_r h=>af (gN (args:=A8) (res:=wc) (f:=(fun(x:bp)=>of x)) (x:=((e):bp)) (M I) q_r ⟨(M I),J⟩)<|f9 h Wk (RB _ _ _) (dU I) fun r1 h=>bo I<|dE I I<|dE I I<|j3 I<|bw I<|aI I<|bo I<|af (jh (M I) (M I))<|bo I<|cL h fun t q_t h=>aM I (d7 I) ?_;refine aM I (fun hg=>sX kg I I) ?_
  obtain⟨r2,h1t,h0t⟩:=og q_t
  have q_r2g:=fun H=>(h1t H).1
  refine aM I (fun hg=>gN (args:=A8) (res:=wc) (f:=(fun(x:bp)=>of x)) (x:=((e):bp)) (cC I hg) (q_r2g hg) ⟨(cC I hg),J⟩) ?_
  obtain⟨r3,h1t⟩:=Tx (fun H=>(h1t H).2)
  have q_r3g:=fun H=>(h1t H).1
  refine aM I (fun hg=>bN Iv (va _ (q_r3g hg)) ⟨(cC I hg),J⟩)<|aM I (uA I)<|af (ef (M I) (fun H=>(cC I (rd H))) (fun H=>(h1t H).2) h0t)<|dl h I (fun h=>?_) (fun h=>?_)
  ·exact bl<|cS<|fR<|cQ<|ai<|cQ<|so h▸aL I I
  ·refine bT<|dQ D hN I ?_;exact bf (aO (ih (i+1) ⟨dJ D,h⟩) (bu I))

def RJ c{R}(h:eA c=some R):de aQ 127 [K cj c] (K rS R):=by
 exact ec Tryz.func127 I<|bl<|d6 I<|af (ck hS)<|bX<|bl<|bW yL px nR I<|a8 I<|so h▸aL I I

def RI kind{R}(h:qd kind=some R):de aQ 128 [aW kind] (K rS R):=by
 refine ec Tryz.func128 I<|bl<|af (ck hS)<|bX<|bv<|af (Fj (r:=(n8 vz 3)) (x:=TE) gm0 gr0 (nc U5 I I Sy))<|af (bL hI)<|bX<|aq<|bO ?_;refine aO (LU (aA:=fun k i=>(3-i=k)/\iW kind k i=some R) (Of:=fun _ i=>[]) (Gf:=fun _ i=>[(0,aW kind),(5,K (n8 vz 3) TE),(6,aW (i:Int))]) (fun i h=>?_) (fun k1 ih i h=>?_) 3 0 ⟨I,h⟩) (bu I)
 ·obtain⟨D,h⟩:=h
  exact gJ<|bl<|af (ir (M I) hI)<|bX<|aN<|pE (M I) (OM D)<|gL<|aH<|aH<|dP<|aJ<|bl<|af (ck hS)<|fR<|so h▸aL I I
 ·obtain⟨D,h⟩:=h
  refine gJ<|bl<|af (ir (M I) hI)<|bX<|aN<|pD (M I) (OL D)<|lW<|aN<|aq<|bl<|cL h fun e1 q_e1 h=>af (vH Tryz.underlying227 N2 I I (M I) (M I) q_e1)<|aV N2 Qf I fun b=>cn N2 al I<|aS 4 I<|bX<|bl<|sw QY Nb I ?_;refine dk da I<|bo I<|af (nd (M I) (M I))<|dl h I (fun h=>?_) (fun h=>?_)
  ·exact bl<|bW QZ Nc nR I<|a8 I<|cQ<|ai<|cQ<|so h▸aL I I
  ·refine bT<|ca<|aJ<|bd<|af (ta (ML D (by decide)) (M I) hI)<|bo I<|bR ?_;exact bf (aO (ih (i+1) ⟨MK D,h⟩) (bu I))

def TZ t{R}(h:lh t=some R):de aQ 84 [K cA t] (aW R):=by
 refine ec Tryz.func84 I<|bl<|d6 I<|cv<|bX<|bl<|bW Lu C1 nR I<|f9 h Iv (va _) (dU I) fun r h=>bo I<|aG I (dF pd kX I I)<|aG I (di wq I I)<|aG I (lZ ra I)<|aG I (fun hg=>iU (cC I hg) hI)<|im I<|bo I<|aG I (dF pd kX I I)<|aG I (di wq I I)<|aG I (lZ ra I)<|aG I (fun hg=>nt (cC I hg) hI) ?_;refine im I<|bo I<|cL h fun t1 q_t1 h=>aG I (dF pd kX I I)<|aG I (di wq I I) ?_
 obtain⟨r1,h1t1,h0t1⟩:=og q_t1
 have q_r1g:=fun H=>(h1t1 H).1
 refine aG I (fun hg=>bN Ws (RK _ _ (q_r1g hg)) ⟨(cC I hg),(TD Wr fun x y h=>RJ _ h),J⟩)<|af (cU (M I) (fun H=>(cC I H)) (fun H=>(h1t1 H).2) h0t1)<|bw I<|bv<|bW pd kX wq I<|cR ra I<|af (bL hI)<|bX<|aq<|aY (k:=29) I fun hN=>bO ?_;refine aO (jc (aA:=fun ls i ok=>(t.Columns.drop i=ls)/\fQ t ls ok=some R) (Of:=fun _ i ok=>[]) (Gf:=fun _ i ok=>[(1,aU cA t),(3,lx ok),(29,hM (cj) t.Columns),(30,kO t.Columns),(31,aW (i:Int))]) (fun i ok h=>?_) (fun e tl ih i ok h=>?_) t.Columns 0 t1 ⟨I,h⟩) (bu I)
 ·obtain⟨D,h⟩:=h
  refine ea D I<|aJ<|bv<|bW BG xk iC I<|cR f8 I<|af (bL hI)<|bX<|aq<|aY (k:=44) I fun hN1=>?_;refine bO ?_;refine aO (jc (aA:=fun ls1 i1 ok1=>(t.Keys.drop i1=ls1)/\eP t ls1 i1 ok1=some R) (Of:=fun _ i1 ok1=>[]) (Gf:=fun _ i1 ok1=>[(1,aU cA t),(3,lx ok1),(44,qq t.Keys),(45,kO t.Keys),(46,aW (i1:Int))]) (fun i1 ok1 h=>?_) (fun e1 tl1 ih1 i1 ok1 h=>?_) t.Keys 0 ok ⟨I,h⟩) (bu I)
  ·obtain⟨hx1,h⟩:=h
   refine ea hx1 I<|aJ<|bv<|bo I<|af (mT (M I))<|dl h I (fun h=>?_) (fun h=>?_)
   ·exact bl<|fN<|ai<|so h▸aL I I
   ·exact lW<|bl<|fN<|so h▸aL I I
  ·obtain⟨hx1,h⟩:=h
   refine d9 hx1 I<|aN<|aq<|aI I<|gp f8 da I (ei hx1)<|j3 I<|bw I<|bd<|bo I<|bo I ?_;refine aG I (d7 I)<|aG I (fun hg=>iU (cC I hg) hI)<|im I<|bo I<|aG I (d7 I)<|aG I (dF pd kX I I)<|aG I (di wq I I)<|aG I (lZ ra I)<|aG I (fun hg=>ir (cC I hg) (cC I hg))<|im I<|bo I<|cL h fun t2 q_t2 h=>aG I (d7 I)<|aG I (nD I)<|aG I (sy I) ?_
   obtain⟨t3,h1t2,h0t2⟩:=og q_t2
   have q_t3g:=fun H=>(h1t2 H).1
   refine fT I I I I (fun hg=>wP BG xk I I)<|fT I I I I (fun hg=>nc iC I I (cC I hg))<|fT I I I I (fun hg=>jr I)<|fT I I I I (fun hg=>nr (cC I hg) hI) ?_
   obtain⟨e2,h1t3,h0t3⟩:=Vf q_t3g
   have q_e2g:=fun H=>(h1t3 H).1
   refine fT I I I I (fun hg=>ic f8 da I (cC I hg) (cC I hg) (q_e2g hg))<|fT I I I I (fun hg=>nc da I I (cC I hg))<|fT I I I I (fun hg=>jr I)<|fT I I I I (fun hg=>ir (cC I hg) (cC I hg))<|aG I (fun hg=>ef (cC I hg) (fun H=>(cC I (tP hg (rd H)))) (fun H=>(h1t3 (tP hg H)).2) (fun H=>h0t3 hg H))<|af (cU (M I) (fun H=>(cC I H)) (fun H=>(h1t2 H).2) h0t2)<|j3 I<|bR<|dQ hx1 hN1 I ?_;exact bf (aO (ih1 (i1+1) t2 ⟨dJ hx1,h⟩) (bu I))
 ·obtain⟨D,h⟩:=h
  refine d9 D I<|aN<|aq<|bl<|gp ra kg I (ei D)<|aV kg nC I fun b=>cn kg al I<|aS 5 I<|bX<|bd<|bo I<|bo I ?_;refine cL h fun t4 q_t4 h=>aG I (dF Gn u0 I I)<|aG I (di da I I) ?_
  obtain⟨r2,h1t4,h0t4⟩:=og q_t4
  have q_r2g:=fun H=>(h1t4 H).1
  refine aG I (fun hg=>bN Wq (RI _ (q_r2g hg)) ⟨(cC I hg),J⟩)<|aG I (fun hg=>BA (cC I hg) hS)<|af (cU (M I) (fun H=>(cC I H)) (fun H=>(h1t4 H).2) h0t4)<|j3 I<|bR<|dQ D hN I ?_;exact bf (aO (ih (i+1) t4 ⟨dJ D,h⟩) (bu I))

def T0 t{R}(h:jP t=some R):de aQ 83 [K cA t] (lx R):=by
 exact ec Tryz.func83 I<|bl<|d6 I<|cS<|bX<|bl<|dk lL I<|f9 h XD (TZ _) (dU I) fun r h=>iY I<|a8 I<|so h▸aL I I

def LA s f{R}(h:cG s f=some R):de aQ 129 [hM (cA) s,(gn aQ KG xY (fun(x:bH)=>f x))] (aW R):=by
 refine ec Tryz.func129 I<|bl<|cv<|bX<|bv<|bo I<|cR sS I<|af (bL hI)<|bX<|aq<|aY (k:=6) I fun hN=>bO ?_;refine aO (fU (aA:=fun ls i=>(s.drop i=ls)/\bk f ls i=some R) (Of:=fun _ i=>[]) (Gf:=fun _ i=>[(0,hM (cA) s),(1,(gn aQ KG xY (fun(x:bH)=>f x))),(7,kO s),(8,aW (i:Int))]) (fun i h=>?_) (fun e tl ih i h=>?_) s 0 ⟨I,h⟩) (bu I)
 ·obtain⟨D,h⟩:=h
  exact ea D I<|aJ<|bl<|fN<|so h▸aL I I
 ·obtain⟨D,h⟩:=h
  refine d9 D I<|aN<|aq<|aI I<|bw I<|aI I<|bo I<|bo I<|re sS lL I (ei D) ?_;refine dk lL I<|cL h fun r q_r h=>af (gN (args:=KG) (res:=G0) (f:=(fun(x:bH)=>f x)) (x:=((e):bH)) (M I) q_r ⟨(M I),J⟩)<|dl h I (fun h=>?_) (fun h=>?_)
  ·exact aI I<|a8 I<|cQ<|ai<|cQ<|so h▸aL I I
  ·refine bT<|dQ D hN I ?_;exact bf (aO (ih (i+1) ⟨dJ D,h⟩) (bu I))

def TY s f{R}(h:eV s f=some R):de aQ 85 [hM (cA) s,(gn aQ KG xY (fun(x:bH)=>f x))] (lx R):=by
 exact ec Tryz.func85 I<|bl<|cS<|bX<|aI I<|bo I<|f9 h SL (LA _ _) (dU I) fun r h=>af (iU (M I) hI)<|a8 I<|so h▸aL I I

def RA of name p{R}(h:dr of name p=some R):de aQ 163 [K cA p,aU (rT ((gn aQ KG wc (fun(x:bH)=>of x)))) (),aU rS name] (lx R):=by
 refine ec Tryz.func163 I<|bl<|d6 I<|cS<|bX<|aN<|cL h fun r q_r h=>?_
 refine lU (ts:=[_,_,_,_,_,_]) mixed I I
  ⟨AA 1 I I (pu U9 (M I)),
  ⟨AA 3 I I (sX lL I I),
  ⟨nP 5 0 6 1 I I I (gN (args:=KG) (res:=wc) (f:=(fun(x:bH)=>of x)) (x:=((p):bH)) (M I) q_r ⟨(M I),J⟩),
  ⟨AA 2 I I (sX nR I I),
  ⟨nP 7 2 8 3 I I I (pb (M I) (M I)),
  ⟨ly 9 4 I I (DN I),
  J⟩⟩⟩⟩⟩⟩ ?_
 exact aJ<|xH<|so h▸aL I I

def Lz l of name{R}(h:fz l of name=some R):de aQ 130 [hM (cA) l,(gn aQ KG wc (fun(x:bH)=>of x)),K rS name] (tT [aW R.1,lx R.2]):=by
 refine ec Tryz.func130 I<|bl<|af (K8 (M I))<|d6 I<|cv<|cS<|bX<|aI I<|af ((show bM _ _ _ _ ((gn aQ KG xY (fun(x:bH)=>(dr of name) x)))from mg (cts:=[aU (rT ((gn aQ KG wc (fun(x:bH)=>of x)))) (),aU rS name]) (caps:=[.tmp 4,.tmp 5]) Wj ⟨(M I),(M I),J⟩ (fun x y h=>RA _ _ _ h)))<|f9 h SL (LA _ _) (dU I) fun r h=>bw I<|aI I<|af (F1 (M I) hI)<|bo I<|af (iU (M I) hI) ?_;exact j3 I<|a8 I<|so h▸eC I I I

def TX l of{R}(h:lg l of=some R):de aQ 86 [hM (cA) l,(gn aQ KG wc (fun(x:bH)=>of x))] (lx R):=by
 refine ec Tryz.func86 I<|bl<|cS<|bX<|bv<|bo I<|cR sS I<|af (bL hI)<|bX<|aq<|aY (k:=9) I fun hN=>bO ?_;refine aO (fU (aA:=fun ls i=>(l.drop i=ls)/\fG l of ls i=some R) (Of:=fun _ i=>[]) (Gf:=fun _ i=>[(0,hM (cA) l),(1,(gn aQ KG wc (fun(x:bH)=>of x))),(9,hM (cA) l),(10,kO l),(11,aW (i:Int))]) (fun i h=>?_) (fun e tl ih i h=>?_) l 0 ⟨I,h⟩) (bu I)
 ·obtain⟨D,h⟩:=h
  exact ea D I<|aJ<|bl<|cS<|fR<|so h▸aL I I
 ·obtain⟨D,h⟩:=h
  refine d9 D I<|aN<|aq<|aI I<|gp sS lL I (ei D)<|aV lL xX I fun b=>j3 I<|cn lL al I<|aS 6 I<|bX<|aN ?_;refine bd<|bo I<|bo I<|bo I<|dk lL I<|cL h fun r q_r h=>af (gN (args:=KG) (res:=wc) (f:=(fun(x:bH)=>of x)) (x:=((e):bH)) (M I) q_r ⟨(M I),J⟩)<|f9 h SK (Lz _ _ _) (dU I) fun r1 h=>bo I<|dE I I<|dE I I<|j3 I<|bw I<|aI I<|bo I<|af (jh (M I) (M I))<|bo I<|cL h fun t q_t h=>aM I (d7 I) ?_;refine aM I (fun hg=>sX lL I I) ?_
  obtain⟨r2,h1t,h0t⟩:=og q_t
  have q_r2g:=fun H=>(h1t H).1
  refine aM I (fun hg=>gN (args:=KG) (res:=wc) (f:=(fun(x:bH)=>of x)) (x:=((e):bH)) (cC I hg) (q_r2g hg) ⟨(cC I hg),J⟩) ?_
  obtain⟨r3,h1t⟩:=Tx (fun H=>(h1t H).2)
  have q_r3g:=fun H=>(h1t H).1
  refine aM I (fun hg=>bN Iv (va _ (q_r3g hg)) ⟨(cC I hg),J⟩)<|aM I (uA I)<|af (ef (M I) (fun H=>(cC I (rd H))) (fun H=>(h1t H).2) h0t)<|dl h I (fun h=>?_) (fun h=>?_)
  ·exact bl<|cS<|fR<|cQ<|ai<|cQ<|so h▸aL I I
  ·refine bT<|dQ D hN I ?_;exact bf (aO (ih (i+1) ⟨dJ D,h⟩) (bu I))

def Pg t{R}(h:dz t=some R):de aQ 87 [K cA t] (K rS R):=by
 exact ec Tryz.func87 I<|bl<|d6 I<|af (ck hS)<|bX<|bl<|bW Lu C1 nR I<|a8 I<|so h▸aL I I

def Pi c{R}(h:na c=some R):de aQ 38 [K bq c] (aW R):=by
 refine ec Tryz.func38 I<|bl<|d6 I<|cv<|bX<|bl<|af (ck (show aC _ _ _ ((gn aQ KG xY (fun(x:bH)=>jP x)))from(TD XE fun x y h=>T0 _ h)))<|bX<|bv<|bW pR jl zu I<|cR sS I<|af (jA (M I) hI)<|bo I<|cL h fun t q_t h=>aM I (dF pR jl I I)<|aM I (di zu I I)<|aM I (d7 I) ?_
 obtain⟨r,h1t,h0t⟩:=og q_t
 have q_rg:=fun H=>(h1t H).1
 refine aM I (fun hg=>bN XC (TY _ _ (q_rg hg)) ⟨(cC I hg),(cC I hg),J⟩)<|af (ef (M I) (fun H=>(cC I (rd H))) (fun H=>(h1t H).2) h0t)<|bo I<|cL h fun t1 q_t1 h=>aM I (dF pR jl I I)<|aM I (di zu I I) ?_
 obtain⟨r1,h1t1,h0t1⟩:=og q_t1
 have q_r1g:=fun H=>(h1t1 H).1
 refine aM I (fun hg=>bN XB (TX _ _ (q_r1g hg)) ⟨(cC I hg),(TD VQ fun x y h=>Pg _ h),J⟩)<|aM I (uA I)<|af (ef (M I) (fun H=>(cC I (rd H))) (fun H=>(h1t1 H).2) h0t1)<|dl h I (fun h=>?_) (fun h=>?_)
 ·exact bl<|fN<|ai<|so h▸aL I I
 ·exact lW<|bl<|fN<|so h▸aL I I

def Pf n{R}(h:qU n=some R):de aQ 88 [aW n] (lx R):=by
 exact ec Tryz.func88 I<|bl<|cS<|bX<|aI I<|af (iU (M I) hI)<|bo I<|aG I (d7 I)<|aG I (fun hg=>nt (cC I hg) hI)<|im I<|a8 I<|so h▸aL I I

def RD s f{R}(h:fb s f=some R):de aQ 135 [hM (bb) s,(gn aQ Qj xY (fun(x:ay)=>f x))] (aW R):=by
 refine ec Tryz.func135 I<|bl<|cv<|bX<|bv<|bo I<|cR wK I<|af (bL hI)<|bX<|aq<|aY (k:=6) I fun hN=>bO ?_;refine aO (fU (aA:=fun ls i=>(s.drop i=ls)/\cI f ls i=some R) (Of:=fun _ i=>[]) (Gf:=fun _ i=>[(0,hM (bb) s),(1,(gn aQ Qj xY (fun(x:ay)=>f x))),(7,kO s),(8,aW (i:Int))]) (fun i h=>?_) (fun e tl ih i h=>?_) s 0 ⟨I,h⟩) (bu I)
 ·obtain⟨D,h⟩:=h
  exact ea D I<|aJ<|bl<|fN<|so h▸aL I I
 ·obtain⟨D,h⟩:=h
  refine d9 D I<|aN<|aq<|aI I<|bw I<|aI I<|bo I<|bo I<|re wK sB I (ei D) ?_;refine dk sB I<|cL h fun r q_r h=>af (gN (args:=Qj) (res:=G0) (f:=(fun(x:ay)=>f x)) (x:=((e):ay)) (M I) q_r ⟨(M I),J⟩)<|dl h I (fun h=>?_) (fun h=>?_)
  ·exact aI I<|a8 I<|cQ<|ai<|cQ<|so h▸aL I I
  ·refine bT<|dQ D hN I ?_;exact bf (aO (ih (i+1) ⟨dJ D,h⟩) (bu I))

end Go.Proofs.YthbdkceckjihgaaGreatDoor

