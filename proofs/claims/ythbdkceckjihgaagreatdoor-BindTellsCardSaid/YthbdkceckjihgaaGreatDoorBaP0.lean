/- cH of this claim: P0. -/
import Derived.Test.YthbdkceckjihgaaGreatDoorBaT
import Derived.Test.YthbdkceckjihgaaGreatDoorBaF
set_option linter.all false
namespace Go.Proofs.YthbdkceckjihgaaGreatDoor
open Go
abbrev aC:=rI .i64
abbrev ib:=AJ (fun y:Bool=>ia y)
abbrev uY:=fun(x:aS)=>[V bg x]
abbrev yK:=fun(x:ca×Int)=>tT [V aa x.1,aO x.2]
noncomputable abbrev IN:=eV aH uY yK (fun(x:aS)=>lj x)
abbrev Fv:=fun(mc:an) (mx:Bool)=>(jm mc mx).map fun mr=>(mr,mc)
abbrev lz:=(⟨[]⟩:cD)
abbrev CT:=(⟨(0:Int),(0:Int),(0:Int),[]⟩:dl)
abbrev tJ:=fun(x:Bool)=>ia x
abbrev wx:=(⟨[116],[]⟩:fD)
abbrev Ag:=fun(x:(List Int))=>lE x
abbrev Er:=fun(x:bv)=>[V bW x]
abbrev pA:=fun(x:Bool)=>[ia x]
abbrev tK:=(⟨[],[],(0:Int)⟩:bD)
abbrev dj:=KC aC 3
abbrev wz:=fun(x:bw)=>[V bO x]
abbrev mn:=(⟨[]⟩:ca)
abbrev sf:=fun(x:dN)=>V rS x
abbrev hJ:=(-1:Int)
abbrev Fx:=(⟨[97],(2:Int)⟩:bw)
abbrev Al:=(⟨[],(2:Int),false⟩:tv)
abbrev Ak:=fun(x:Unit)=>([]:List Ty)
abbrev CU:=(⟨[],[],[],[],(0:Int)⟩:cG)
abbrev wy:=dz aC
abbrev Fw:=fun(x:(List Int))=>V wy x
abbrev IM:=fun(x:aS×(List Int))=>[V bg x.1,lE x.2]
abbrev sM:=([]:List Int)
abbrev Aj:=fun(x:Int)=>aO x
abbrev Bx:=fun(x:Bool)=>V rB x
abbrev m8:=O6 .i64
abbrev Ai:=(⟨[]⟩:aY)
abbrev Ld:=fun(x:aS×(List Int))=>[V bg x.1,V wy x.2]
abbrev IL:=fun(x:Int×Int)=>tT [aO x.1,aO x.2]
abbrev KY:=(⟨[98],(3:Int)⟩:bw)
abbrev Lc:=(⟨[116],[Fx,KY],[]⟩:bv)
abbrev Fu:=fun(x:Bool)=>[V rB x]
abbrev GX:=fun(x:dZ)=>[V cg x]
abbrev GW:=fun(x:er)=>[V cV x]
abbrev Lb:=fun(x:ca×Int)=>tT [V aa x.1,V aC x.2]
abbrev IK:=fun(x:aJ)=>[V aV x]
abbrev La:=fun(mc:an) (mx:Unit)=>lh mc
abbrev K9:=fun(mc:an) (mx:Unit)=>lS mc
abbrev K8:=fun(mc:an) (mx:Unit)=>lT mc
abbrev K7:=fun(mc:an) (mx:Unit)=>lU mc
abbrev K6:=fun(mc:an) (mx:Unit)=>lV mc
abbrev K5:=fun(mc:an) (mx:Unit)=>lW mc
abbrev K0:=fun(x:Int×Int)=>tT [V aC x.1,V aC x.2]
abbrev IJ:=fun(x:cD)=>[V bh x]
abbrev II:=fun(x:mI)=>[V aN x]
abbrev Ah:=lC aC 2
abbrev IH:=fun(x:Int)=>[aO x]
abbrev KZ:=(⟨[117],[Fx],[]⟩:bv)
set_option maxRecDepth 100000

def E4 c{R}(h:pj c=some R):cw aH 131 [V (rI .i32) c] (ia R):=by
 exact cX Tryz.func131 I<|aU<|bQ<|bG<|aG I<|d (e9 (Y I) hI)<|a8 I<|aB I (cO I)<|aB I (fun K=>jg (bI I K) hI)<|fF I<|aR I<|so h▸aA I I

def HO s v{R}(h:eY s v=some R):cw aH 99 [fO (rS) s,V rS v] (aO R):=by
 refine cX Tryz.func99 I<|aU<|bJ<|bG<|aZ<|a8 I<|cu tE I<|d (bt hI)<|bG<|ai<|aQ (k:=6) I fun hN=>bq ?_;refine aE (eH (aw:=fun ls i=>(s.drop i=ls)/\dF v ls i=some R) (Of:=fun _ i=>[]) (Gf:=fun _ i=>[(0,fO (rS) s),(1,V rS v),(7,jf s),(8,aO (i:Int))]) (fun i h=>?_) (fun e tl ih i h=>?_) s 0 ⟨I,h⟩) (be I)
 ·obtain⟨A,h⟩:=h
  exact dr A I<|av<|aU<|ev<|so h▸aA I I
 ·obtain⟨A,h⟩:=h
  refine dq A I<|aF<|ai<|aG I<|bk I<|aG I<|a8 I<|a8 I<|nB tE j5 I (dv A) ?_;refine cN j5 I<|d (jj (Y I) (Y I))<|cE h I (fun h=>?_) (fun h=>?_)
  ·exact aG I<|aR I<|cz<|ah<|cz<|so h▸aA I I
  ·refine bA<|db A hN I ?_;exact aM (aE (ih (i+1) ⟨cW A,h⟩) (be I))

def E9 s v{R}(h:ez s v=some R):cw aH 100 [fO (rS) s,V rS v] (ia R):=by
 exact cX Tryz.func100 I<|aU<|bQ<|bG<|aG I<|a8 I<|eD h ND (HO _ _) (dc I) fun r h=>d (e9 (Y I) hI)<|aR I<|so h▸aA I I

def JT s{R}(h:pH s=some R):cw aH 132 [V rS s] (ia R):=by
 exact cX Tryz.func132 I<|aU<|bQ<|bG<|aU<|d (zX (r:=lC rS 28) (x:=Nc) gm1 gr1 (F0 Tryz.underlying228 j5 I KE))<|a8 I<|eD h KS (E9 _ _) (dc I) fun r h=>aR I<|so h▸aA I I

def JS s{R}(h:f6 s=some R):cw aH 133 [V rS s] (V rS R):=by
 unfold f6 at h
 split at h
 ·rename_i hl
  cases h
  refine Cu fun w hw=>?_
  have:=Any.strings_ToUpper_any o5 upX ⟨s.toArray⟩ w (by rw [Fh];exact hl) hw.1 hw.2
  simp only [List.toList_toArray]at this
  exact this
 ·cases h

def JR c{R}(h:rD c=some R):cw aH 134 [V (rI .i32) c] (ia R):=by
 exact cX Tryz.func134 I<|aU<|bQ<|bG<|aG I<|d (e9 (Y I) hI)<|a8 I<|aB I (cO I)<|aB I (fun K=>jg (bI I K) hI)<|fF I<|aR I<|so h▸aA I I

def q0 s{R}(h:gC s=some R):cw aH 89 [V rS s] (ia R):=by
 refine cX Tryz.func89 I<|aU<|bQ<|bG<|aZ<|a8 I<|d (jj (Y I) hS)<|a8 I<|aK I (cO I)<|aK I (fun K=>me kx (bI I K))<|aK I (fun K=>fz (bI I K) hI)<|gU I<|a8 I<|ck h fun t q_t h=>aK I (cO I) ?_
 obtain⟨b,h1t,h0t⟩:=og q_t
 have q_bg:=fun D=>(h1t D).1
 refine aK I (fun K=>kJ kx (bI I K) hI (q_bg K))<|aK I (fun K=>I1 GQ Tryz.underlying21 (bI I K)) ?_
 obtain⟨r,h1t⟩:=IB (fun D=>(h1t D).2)
 have q_rg:=fun D=>(h1t D).1
 refine aK I (fun K=>bp KM (E4 _ (q_rg K)) ⟨(bI I K),Q⟩)<|aK I (qC I)<|d (cP (Y I) (fun D=>(bI I (lD D))) (fun D=>(h1t D).2) h0t)<|a8 I<|ck h fun t1 q_t1 h=>aK I (cO I) ?_
 obtain⟨r1,h1t1,h0t1⟩:=og q_t1
 have q_r1g:=fun D=>(h1t1 D).1
 refine aK I (fun K=>bp Ot (JS _ (q_r1g K)) ⟨(bI I K),Q⟩) ?_
 obtain⟨r2,h1t1⟩:=IB (fun D=>(h1t1 D).2)
 have q_r2g:=fun D=>(h1t1 D).1
 refine aK I (fun K=>bp Ou (JT _ (q_r2g K)) ⟨(bI I K),Q⟩)<|d (cP (Y I) (fun D=>(bI I (lD D))) (fun D=>(h1t1 D).2) h0t1)<|cE h I (fun h=>?_) (fun h=>?_)
 ·exact aU<|bQ<|dh<|ah<|so h▸aA I I
 ·refine ip<|aZ<|a8 I<|Cw kx (Y I) I fun rg=>bG<|ai<|bq ?_;refine aE (Mp (β:=Int×Int) (aw:=fun ls=>kr ls=some R) (Of:=fun ls=>[yM rg s ls]) (Gf:=[(25,tV (aj rg 0))]) (fun ls h ih=>?_) (BR s) h) (be I);refine dg<|aU ?_;refine D8 (Y I) I (fun hl=>?_) (fun e tl hk=>?_)
  ·subst hl
   exact d (AI (Y I))<|bG<|aF<|ly (Y I) I<|dU<|au<|au<|cj<|av<|aU<|bQ<|dh<|aI<|so h▸aA I I
  ·subst hk
   refine d (sy (i:=0) I (Y I))<|bG<|aF<|lx (Y I) I<|ip<|ai<|aU<|d (sy (i:=2) I (Y I))<|bk I<|aG I<|eD h Oq (JR _) (dc I) fun r3 h=>d (iz (Y I))<|a8 I<|ck h fun t2 q_t2 h=>aB I (cO I) ?_
   obtain⟨r4,h1t2,h0t2⟩:=og q_t2
   have q_r4g:=fun D=>(h1t2 D).1
   refine aB I (fun K=>bp KM (E4 _ (q_r4g K)) ⟨(bI I K),Q⟩)<|aB I (qC I)<|d (cb (Y I) (fun D=>(bI I D)) (fun D=>(h1t2 D).2) h0t2)<|a8 I<|aB I (cO I)<|aB I (sq I)<|fF I<|cE h I (fun h=>?_) (fun h=>?_)
   ·exact aU<|bQ<|dh<|cz<|cz<|aI<|so h▸aA I I
   ·refine bA<|bl ?_;exact aM (aE (ih tl (by simp) h) (be I))

def Jz s f{R}(h:d9 s f=some R):cw aH 203 [fO (bO) s,(eV aH wz tJ (fun(x:bw)=>f x))] (aO R):=by
 refine cX Tryz.func203 I<|aU<|bJ<|bG<|aZ<|a8 I<|cu kQ I<|d (bt hI)<|bG<|ai<|aQ (k:=6) I fun hN=>bq ?_;refine aE (eH (aw:=fun ls i=>(s.drop i=ls)/\bY f ls i=some R) (Of:=fun _ i=>[]) (Gf:=fun _ i=>[(0,fO (bO) s),(1,(eV aH wz tJ (fun(x:bw)=>f x))),(7,jf s),(8,aO (i:Int))]) (fun i h=>?_) (fun e tl ih i h=>?_) s 0 ⟨I,h⟩) (be I)
 ·obtain⟨A,h⟩:=h
  exact dr A I<|av<|aU<|ev<|so h▸aA I I
 ·obtain⟨A,h⟩:=h
  refine dq A I<|aF<|ai<|aG I<|bk I<|aG I<|a8 I<|a8 I<|nB kQ fG I (dv A) ?_;refine cN fG I<|ck h fun r q_r h=>d (fq (args:=wz) (res:=Bx) (f:=(fun(x:bw)=>f x)) (x:=((e):bw)) (Y I) q_r ⟨(Y I),Q⟩)<|cE h I (fun h=>?_) (fun h=>?_)
  ·exact aG I<|aR I<|cz<|ah<|cz<|so h▸aA I I
  ·refine bA<|db A hN I ?_;exact aM (aE (ih (i+1) ⟨cW A,h⟩) (be I))

def Jy of name p{R}(h:dG of name p=some R):cw aH 204 [V bO p,bb (rT ((eV aH wz sf (fun(x:bw)=>of x)))) (),bb rS name] (ia R):=by
 refine cX Tryz.func204 I<|aU<|cY I<|bQ<|bG<|aF<|ck h fun r q_r h=>?_
 refine fX (ts:=[_,_,_,_,_,_]) mixed I I
  ⟨rp 1 I I (my MX (Y I)),
  ⟨rp 3 I I (o9 fG I I),
  ⟨ij 5 0 6 1 I I I (fq (args:=wz) (res:=sf) (f:=(fun(x:bw)=>of x)) (x:=((p):bw)) (Y I) q_r ⟨(Y I),Q⟩),
  ⟨rp 2 I I (o9 j5 I I),
  ⟨ij 7 2 8 3 I I I (jj (Y I) (Y I)),
  ⟨gH 9 4 I I (wA I),
  Q⟩⟩⟩⟩⟩⟩ ?_
 exact av<|rk<|so h▸aA I I

def JL l of name{R}(h:fU l of name=some R):cw aH 162 [fO (bO) l,(eV aH wz sf (fun(x:bw)=>of x)),V rS name] (tT [aO R.1,ia R.2]):=by
 refine cX Tryz.func162 I<|aU<|d (EJ (Y I))<|cY I<|bJ<|bQ<|bG<|aG I<|d ((show bE _ _ _ _ ((eV aH wz tJ (fun(x:bw)=>(dG of name) x)))from jx (cts:=[bb (rT ((eV aH wz sf (fun(x:bw)=>of x)))) (),bb rS name]) (caps:=[.tmp 4,.tmp 5]) NY ⟨(Y I),(Y I),Q⟩ (fun x y h=>Jy _ _ _ h)))<|eD h NZ (Jz _ _) (dc I) fun r h=>bk I<|aG I<|d (AH (Y I) hI)<|a8 I<|d (e9 (Y I) hI) ?_;exact gJ I<|aR I<|so h▸dO I I I

def JW l of{R}(h:iE l of=some R):cw aH 126 [fO (bO) l,(eV aH wz sf (fun(x:bw)=>of x))] (ia R):=by
 refine cX Tryz.func126 I<|aU<|bQ<|bG<|aZ<|a8 I<|cu kQ I<|d (bt hI)<|bG<|ai<|aQ (k:=9) I fun hN=>bq ?_;refine aE (eH (aw:=fun ls i=>(l.drop i=ls)/\ef l of ls i=some R) (Of:=fun _ i=>[]) (Gf:=fun _ i=>[(0,fO (bO) l),(1,(eV aH wz sf (fun(x:bw)=>of x))),(9,fO (bO) l),(10,jf l),(11,aO (i:Int))]) (fun i h=>?_) (fun e tl ih i h=>?_) l 0 ⟨I,h⟩) (be I)
 ·obtain⟨A,h⟩:=h
  exact dr A I<|av<|aU<|bQ<|dh<|so h▸aA I I
 ·obtain⟨A,h⟩:=h
  refine dq A I<|aF<|ai<|aG I<|eM kQ fG I (dv A)<|aT fG i7 I fun b=>gJ I<|bX fG al I<|aP 6 I<|bG<|aF ?_;refine aL<|a8 I<|a8 I<|a8 I<|cN fG I<|ck h fun r q_r h=>d (fq (args:=wz) (res:=sf) (f:=(fun(x:bw)=>of x)) (x:=((e):bw)) (Y I) q_r ⟨(Y I),Q⟩)<|eD h Oh (JL _ _ _) (dc I) fun r1 h=>a8 I<|dx I I<|dx I I<|gJ I<|bk I<|aG I<|a8 I<|d (eJ (Y I) (Y I))<|a8 I<|ck h fun t q_t h=>aK I (cO I) ?_;refine aK I (fun K=>o9 fG I I) ?_
  obtain⟨r2,h1t,h0t⟩:=og q_t
  have q_r2g:=fun D=>(h1t D).1
  refine aK I (fun K=>fq (args:=wz) (res:=sf) (f:=(fun(x:bw)=>of x)) (x:=((e):bw)) (bI I K) (q_r2g K) ⟨(bI I K),Q⟩) ?_
  obtain⟨r3,h1t⟩:=IB (fun D=>(h1t D).2)
  have q_r3g:=fun D=>(h1t D).1
  refine aK I (fun K=>bp Cn (q0 _ (q_r3g K)) ⟨(bI I K),Q⟩)<|aK I (qC I)<|d (cP (Y I) (fun D=>(bI I (lD D))) (fun D=>(h1t D).2) h0t)<|cE h I (fun h=>?_) (fun h=>?_)
  ·exact aU<|bQ<|dh<|cz<|ah<|cz<|so h▸aA I I
  ·refine bA<|db A hN I ?_;exact aM (aE (ih (i+1) ⟨cW A,h⟩) (be I))

def JV c{R}(h:dL c=some R):cw aH 127 [V bO c] (V rS R):=by
 exact cX Tryz.func127 I<|aU<|cY I<|d (bC hS)<|bG<|aU<|bN oM iP j5 I<|aR I<|so h▸aA I I

def JU kind{R}(h:nm kind=some R):cw aH 128 [aO kind] (V rS R):=by
 refine cX Tryz.func128 I<|aU<|d (bC hS)<|bG<|aZ<|d (zX (r:=(lC rs 3)) (x:=Lx) gm0 gr0 (fS MU I I KE))<|d (bt hI)<|bG<|ai<|bq ?_;refine aE (Fp (aw:=fun k i=>(3-i=k)/\ga kind k i=some R) (Of:=fun _ i=>[]) (Gf:=fun _ i=>[(0,aO kind),(5,V (lC rs 3) Lx),(6,aO (i:Int))]) (fun i h=>?_) (fun k1 ih i h=>?_) 3 0 ⟨I,h⟩) (be I)
 ·obtain⟨A,h⟩:=h
  exact dg<|aU<|d (fl (Y I) hI)<|bG<|aF<|ly (Y I) (Hs A)<|dU<|au<|au<|cj<|av<|aU<|d (bC hS)<|dh<|so h▸aA I I
 ·obtain⟨A,h⟩:=h
  refine dg<|aU<|d (fl (Y I) hI)<|bG<|aF<|lx (Y I) (Hr A)<|ip<|aF<|ai<|aU<|ck h fun e1 q_e1 h=>d (rC Tryz.underlying227 G2 I I (Y I) (Y I) q_e1)<|aT G2 IG I fun b=>bX G2 al I<|aP 4 I<|bG<|aU<|pb Ja Gd I ?_;refine cN cF I<|a8 I<|d (mg (Y I) (Y I))<|cE h I (fun h=>?_) (fun h=>?_)
  ·exact aU<|bN Jb Ge j5 I<|aR I<|cz<|ah<|cz<|so h▸aA I I
  ·refine bA<|bl<|av<|aL<|d (pF (F6 A (by decide)) (Y I) hI)<|a8 I<|bu ?_;exact aM (aE (ih (i+1) ⟨F5 A,h⟩) (be I))

def LQ t{R}(h:iX t=some R):cw aH 84 [V bW t] (aO R):=by
 refine cX Tryz.func84 I<|aU<|cY I<|bJ<|bG<|aU<|bN uA nP j5 I<|eD h Cn (q0 _) (dc I) fun r h=>a8 I<|aB I (dP g9 ew I I)<|aB I (du mp I I)<|aB I (kV kQ I)<|aB I (fun K=>e9 (bI I K) hI)<|fF I<|a8 I<|aB I (dP g9 ew I I)<|aB I (du mp I I)<|aB I (kV kQ I)<|aB I (fun K=>jg (bI I K) hI) ?_;refine fF I<|a8 I<|ck h fun t1 q_t1 h=>aB I (dP g9 ew I I)<|aB I (du mp I I) ?_
 obtain⟨r1,h1t1,h0t1⟩:=og q_t1
 have q_r1g:=fun D=>(h1t1 D).1
 refine aB I (fun K=>bp Ox (JW _ _ (q_r1g K)) ⟨(bI I K),(Lw Ow fun x y h=>JV _ h),Q⟩)<|d (cb (Y I) (fun D=>(bI I D)) (fun D=>(h1t1 D).2) h0t1)<|bk I<|aZ<|bN g9 ew mp I<|cu kQ I<|d (bt hI)<|bG<|ai<|aQ (k:=29) I fun hN=>bq ?_;refine aE (ft (aw:=fun ls i ok=>(t.Columns.drop i=ls)/\eB t ls ok=some R) (Of:=fun _ i ok=>[]) (Gf:=fun _ i ok=>[(1,bb bW t),(3,ia ok),(29,fO (bO) t.Columns),(30,jf t.Columns),(31,aO (i:Int))]) (fun i ok h=>?_) (fun e tl ih i ok h=>?_) t.Columns 0 t1 ⟨I,h⟩) (be I)
 ·obtain⟨A,h⟩:=h
  refine dr A I<|av<|aZ<|bN nj jB gc I<|cu eu I<|d (bt hI)<|bG<|ai<|aQ (k:=44) I fun hN1=>?_;refine bq ?_;refine aE (ft (aw:=fun ls1 i1 ok1=>(t.Keys.drop i1=ls1)/\dW t ls1 i1 ok1=some R) (Of:=fun _ i1 ok1=>[]) (Gf:=fun _ i1 ok1=>[(1,bb bW t),(3,ia ok1),(44,lE t.Keys),(45,jf t.Keys),(46,aO (i1:Int))]) (fun i1 ok1 h=>?_) (fun e1 tl1 ih1 i1 ok1 h=>?_) t.Keys 0 ok ⟨I,h⟩) (be I)
  ·obtain⟨hx1,h⟩:=h
   refine dr hx1 I<|av<|aZ<|a8 I<|d (iz (Y I))<|cE h I (fun h=>?_) (fun h=>?_)
   ·exact aU<|ev<|ah<|so h▸aA I I
   ·exact ip<|aU<|ev<|so h▸aA I I
  ·obtain⟨hx1,h⟩:=h
   refine dq hx1 I<|aF<|ai<|aG I<|eM eu cF I (dv hx1)<|gJ I<|bk I<|aL<|a8 I<|a8 I ?_;refine aB I (cO I)<|aB I (fun K=>e9 (bI I K) hI)<|fF I<|a8 I<|aB I (cO I)<|aB I (dP g9 ew I I)<|aB I (du mp I I)<|aB I (kV kQ I)<|aB I (fun K=>fl (bI I K) (bI I K))<|fF I<|a8 I<|ck h fun t2 q_t2 h=>aB I (cO I)<|aB I (lF I)<|aB I (m4 I) ?_
   obtain⟨t3,h1t2,h0t2⟩:=og q_t2
   have q_t3g:=fun D=>(h1t2 D).1
   refine cn I I I I (fun K=>oo nj jB I I)<|cn I I I I (fun K=>fS gc I I (bI I K))<|cn I I I I (fun K=>fh I)<|cn I I I I (fun K=>j9 (bI I K) hI) ?_
   obtain⟨e2,h1t3,h0t3⟩:=I4 q_t3g
   have q_e2g:=fun D=>(h1t3 D).1
   refine cn I I I I (fun K=>eL eu cF I (bI I K) (bI I K) (q_e2g K))<|cn I I I I (fun K=>fS cF I I (bI I K))<|cn I I I I (fun K=>fh I)<|cn I I I I (fun K=>fl (bI I K) (bI I K))<|aB I (fun K=>cP (bI I K) (fun D=>(bI I (ku K (lD D)))) (fun D=>(h1t3 (ku K D)).2) (fun D=>h0t3 K D))<|d (cb (Y I) (fun D=>(bI I D)) (fun D=>(h1t2 D).2) h0t2)<|gJ I<|bu<|db hx1 hN1 I ?_;exact aM (aE (ih1 (i1+1) t2 ⟨cW hx1,h⟩) (be I))
 ·obtain⟨A,h⟩:=h
  refine dq A I<|aF<|ai<|aU<|eM kQ fG I (dv A)<|aT fG i7 I fun b=>bX fG al I<|aP 5 I<|bG<|aL<|a8 I<|a8 I ?_;refine ck h fun t4 q_t4 h=>aB I (dP uz mC I I)<|aB I (du cF I I) ?_
  obtain⟨r2,h1t4,h0t4⟩:=og q_t4
  have q_r2g:=fun D=>(h1t4 D).1
  refine aB I (fun K=>bp Ov (JU _ (q_r2g K)) ⟨(bI I K),Q⟩)<|aB I (fun K=>wX (bI I K) hS)<|d (cb (Y I) (fun D=>(bI I D)) (fun D=>(h1t4 D).2) h0t4)<|gJ I<|bu<|db A hN I ?_;exact aM (aE (ih (i+1) t4 ⟨cW A,h⟩) (be I))

def LR t{R}(h:gR t=some R):cw aH 83 [V bW t] (ia R):=by
 exact cX Tryz.func83 I<|aU<|cY I<|bQ<|bG<|aU<|cN ie I<|eD h PB (LQ _) (dc I) fun r h=>ic I<|aR I<|so h▸aA I I

def E6 s f{R}(h:cM s f=some R):cw aH 129 [fO (bW) s,(eV aH Er tJ (fun(x:bv)=>f x))] (aO R):=by
 refine cX Tryz.func129 I<|aU<|bJ<|bG<|aZ<|a8 I<|cu mj I<|d (bt hI)<|bG<|ai<|aQ (k:=6) I fun hN=>bq ?_;refine aE (eH (aw:=fun ls i=>(s.drop i=ls)/\bF f ls i=some R) (Of:=fun _ i=>[]) (Gf:=fun _ i=>[(0,fO (bW) s),(1,(eV aH Er tJ (fun(x:bv)=>f x))),(7,jf s),(8,aO (i:Int))]) (fun i h=>?_) (fun e tl ih i h=>?_) s 0 ⟨I,h⟩) (be I)
 ·obtain⟨A,h⟩:=h
  exact dr A I<|av<|aU<|ev<|so h▸aA I I
 ·obtain⟨A,h⟩:=h
  refine dq A I<|aF<|ai<|aG I<|bk I<|aG I<|a8 I<|a8 I<|nB mj ie I (dv A) ?_;refine cN ie I<|ck h fun r q_r h=>d (fq (args:=Er) (res:=Bx) (f:=(fun(x:bv)=>f x)) (x:=((e):bv)) (Y I) q_r ⟨(Y I),Q⟩)<|cE h I (fun h=>?_) (fun h=>?_)
  ·exact aG I<|aR I<|cz<|ah<|cz<|so h▸aA I I
  ·refine bA<|db A hN I ?_;exact aM (aE (ih (i+1) ⟨cW A,h⟩) (be I))

def LP s f{R}(h:d5 s f=some R):cw aH 85 [fO (bW) s,(eV aH Er tJ (fun(x:bv)=>f x))] (ia R):=by
 exact cX Tryz.func85 I<|aU<|bQ<|bG<|aG I<|a8 I<|eD h KO (E6 _ _) (dc I) fun r h=>d (e9 (Y I) hI)<|aR I<|so h▸aA I I

def JK of name p{R}(h:dV of name p=some R):cw aH 163 [V bW p,bb (rT ((eV aH Er sf (fun(x:bv)=>of x)))) (),bb rS name] (ia R):=by
 refine cX Tryz.func163 I<|aU<|cY I<|bQ<|bG<|aF<|ck h fun r q_r h=>?_
 refine fX (ts:=[_,_,_,_,_,_]) mixed I I
  ⟨rp 1 I I (my MZ (Y I)),
  ⟨rp 3 I I (o9 ie I I),
  ⟨ij 5 0 6 1 I I I (fq (args:=Er) (res:=sf) (f:=(fun(x:bv)=>of x)) (x:=((p):bv)) (Y I) q_r ⟨(Y I),Q⟩),
  ⟨rp 2 I I (o9 j5 I I),
  ⟨ij 7 2 8 3 I I I (jj (Y I) (Y I)),
  ⟨gH 9 4 I I (wA I),
  Q⟩⟩⟩⟩⟩⟩ ?_
 exact av<|rk<|so h▸aA I I

def E5 l of name{R}(h:fb l of name=some R):cw aH 130 [fO (bW) l,(eV aH Er sf (fun(x:bv)=>of x)),V rS name] (tT [aO R.1,ia R.2]):=by
 refine cX Tryz.func130 I<|aU<|d (EJ (Y I))<|cY I<|bJ<|bQ<|bG<|aG I<|d ((show bE _ _ _ _ ((eV aH Er tJ (fun(x:bv)=>(dV of name) x)))from jx (cts:=[bb (rT ((eV aH Er sf (fun(x:bv)=>of x)))) (),bb rS name]) (caps:=[.tmp 4,.tmp 5]) Og ⟨(Y I),(Y I),Q⟩ (fun x y h=>JK _ _ _ h)))<|eD h KO (E6 _ _) (dc I) fun r h=>bk I<|aG I<|d (AH (Y I) hI)<|a8 I<|d (e9 (Y I) hI) ?_;exact gJ I<|aR I<|so h▸dO I I I

def LO l of{R}(h:iW l of=some R):cw aH 86 [fO (bW) l,(eV aH Er sf (fun(x:bv)=>of x))] (ia R):=by
 refine cX Tryz.func86 I<|aU<|bQ<|bG<|aZ<|a8 I<|cu mj I<|d (bt hI)<|bG<|ai<|aQ (k:=9) I fun hN=>bq ?_;refine aE (eH (aw:=fun ls i=>(l.drop i=ls)/\eo l of ls i=some R) (Of:=fun _ i=>[]) (Gf:=fun _ i=>[(0,fO (bW) l),(1,(eV aH Er sf (fun(x:bv)=>of x))),(9,fO (bW) l),(10,jf l),(11,aO (i:Int))]) (fun i h=>?_) (fun e tl ih i h=>?_) l 0 ⟨I,h⟩) (be I)
 ·obtain⟨A,h⟩:=h
  exact dr A I<|av<|aU<|bQ<|dh<|so h▸aA I I
 ·obtain⟨A,h⟩:=h
  refine dq A I<|aF<|ai<|aG I<|eM mj ie I (dv A)<|aT ie tH I fun b=>gJ I<|bX ie al I<|aP 6 I<|bG<|aF ?_;refine aL<|a8 I<|a8 I<|a8 I<|cN ie I<|ck h fun r q_r h=>d (fq (args:=Er) (res:=sf) (f:=(fun(x:bv)=>of x)) (x:=((e):bv)) (Y I) q_r ⟨(Y I),Q⟩)<|eD h KN (E5 _ _ _) (dc I) fun r1 h=>a8 I<|dx I I<|dx I I<|gJ I<|bk I<|aG I<|a8 I<|d (eJ (Y I) (Y I))<|a8 I<|ck h fun t q_t h=>aK I (cO I) ?_;refine aK I (fun K=>o9 ie I I) ?_
  obtain⟨r2,h1t,h0t⟩:=og q_t
  have q_r2g:=fun D=>(h1t D).1
  refine aK I (fun K=>fq (args:=Er) (res:=sf) (f:=(fun(x:bv)=>of x)) (x:=((e):bv)) (bI I K) (q_r2g K) ⟨(bI I K),Q⟩) ?_
  obtain⟨r3,h1t⟩:=IB (fun D=>(h1t D).2)
  have q_r3g:=fun D=>(h1t D).1
  refine aK I (fun K=>bp Cn (q0 _ (q_r3g K)) ⟨(bI I K),Q⟩)<|aK I (qC I)<|d (cP (Y I) (fun D=>(bI I (lD D))) (fun D=>(h1t D).2) h0t)<|cE h I (fun h=>?_) (fun h=>?_)
  ·exact aU<|bQ<|dh<|cz<|ah<|cz<|so h▸aA I I
  ·refine bA<|db A hN I ?_;exact aM (aE (ih (i+1) ⟨cW A,h⟩) (be I))

def HQ t{R}(h:dE t=some R):cw aH 87 [V bW t] (V rS R):=by
 exact cX Tryz.func87 I<|aU<|cY I<|d (bC hS)<|bG<|aU<|bN uA nP j5 I<|aR I<|so h▸aA I I

def HS c{R}(h:ks c=some R):cw aH 38 [V bc c] (aO R):=by
 refine cX Tryz.func38 I<|aU<|cY I<|bJ<|bG<|aU<|d (bC (show ax _ _ _ ((eV aH Er tJ (fun(x:bv)=>gR x)))from(Lw PC fun x y h=>LR _ h)))<|bG<|aZ<|bN iU dw pd I<|cu mj I<|d (fz (Y I) hI)<|a8 I<|ck h fun t q_t h=>aK I (dP iU dw I I)<|aK I (du pd I I)<|aK I (cO I) ?_
 obtain⟨r,h1t,h0t⟩:=og q_t
 have q_rg:=fun D=>(h1t D).1
 refine aK I (fun K=>bp PA (LP _ _ (q_rg K)) ⟨(bI I K),(bI I K),Q⟩)<|d (cP (Y I) (fun D=>(bI I (lD D))) (fun D=>(h1t D).2) h0t)<|a8 I<|ck h fun t1 q_t1 h=>aK I (dP iU dw I I)<|aK I (du pd I I) ?_
 obtain⟨r1,h1t1,h0t1⟩:=og q_t1
 have q_r1g:=fun D=>(h1t1 D).1
 refine aK I (fun K=>bp Pz (LO _ _ (q_r1g K)) ⟨(bI I K),(Lw NH fun x y h=>HQ _ h),Q⟩)<|aK I (qC I)<|d (cP (Y I) (fun D=>(bI I (lD D))) (fun D=>(h1t1 D).2) h0t1)<|cE h I (fun h=>?_) (fun h=>?_)
 ·exact aU<|ev<|ah<|so h▸aA I I
 ·exact ip<|aU<|ev<|so h▸aA I I

def HP n{R}(h:th n=some R):cw aH 88 [aO n] (ia R):=by
 exact cX Tryz.func88 I<|aU<|bQ<|bG<|aG I<|d (e9 (Y I) hI)<|a8 I<|aB I (cO I)<|aB I (fun K=>jg (bI I K) hI)<|fF I<|aR I<|so h▸aA I I

def JQ s f{R}(h:fH s f=some R):cw aH 135 [fO (aV) s,(eV aH IK tJ (fun(x:aJ)=>f x))] (aO R):=by
 refine cX Tryz.func135 I<|aU<|bJ<|bG<|aZ<|a8 I<|cu qy I<|d (bt hI)<|bG<|ai<|aQ (k:=6) I fun hN=>bq ?_;refine aE (eH (aw:=fun ls i=>(s.drop i=ls)/\dQ f ls i=some R) (Of:=fun _ i=>[]) (Gf:=fun _ i=>[(0,fO (aV) s),(1,(eV aH IK tJ (fun(x:aJ)=>f x))),(7,jf s),(8,aO (i:Int))]) (fun i h=>?_) (fun e tl ih i h=>?_) s 0 ⟨I,h⟩) (be I)
 ·obtain⟨A,h⟩:=h
  exact dr A I<|av<|aU<|ev<|so h▸aA I I
 ·obtain⟨A,h⟩:=h
  refine dq A I<|aF<|ai<|aG I<|bk I<|aG I<|a8 I<|a8 I<|nB qy mR I (dv A) ?_;refine cN mR I<|ck h fun r q_r h=>d (fq (args:=IK) (res:=Bx) (f:=(fun(x:aJ)=>f x)) (x:=((e):aJ)) (Y I) q_r ⟨(Y I),Q⟩)<|cE h I (fun h=>?_) (fun h=>?_)
  ·exact aG I<|aR I<|cz<|ah<|cz<|so h▸aA I I
  ·refine bA<|db A hN I ?_;exact aM (aE (ih (i+1) ⟨cW A,h⟩) (be I))

end Go.Proofs.YthbdkceckjihgaaGreatDoor

