/- de of this claim: P11. -/
import Derived.Test.YtigldkegamffhaaGreatDoorBfT
import Derived.Test.YtigldkegamffhaaGreatDoorBfP10
import Derived.Test.YtigldkegamffhaaGreatDoorBfMS
set_option linter.all false
namespace Go.Proofs.YtigldkegamffhaaGreatDoor
open Go
set_option maxRecDepth 100000

def Rb t from1 to1{R}(h:lS t from1 to1=some R):dZ aY 8 [K aX t,K rS from1,K rS to1] (K aX R):=by
 refine fc Tryz.func8 I<|bA<|eA I<|ba ic qj I fun b=>co<|bA<|d5 ic I<|cV h fun r q_r h=>uT [] _ I Ld (abp _ q_r) ⟨(M I),J⟩ I fun i=>?_;refine(show RG _ _ _ _ [_,_] _ from ?_);refine cM false cd 113<|ba (r:=eu) (x:=fD qd (Y none 0 (([]:List cx).length))) ic wa I fun b1=>fv (r' :=eu) ic I (fB I) I (M I) (M I)<|cY<|ny<|co<|bN<|ca 0 nK I<|Q (fg ye p4 (.head _) I (M I))<|Q (fa sP (.tail _ (.head _)) (M I))<|Q (bG hI)<|co<|am<|fQ (.tail _ (.head _)) fun hN=>cc<|gx<|gx<|jt ?_;refine aP (gY (tV:=fun ls i1 out=>(r.Nodes.drop i1=ls)/\jI from1 to1 ls i1 out=some R) (Of:=fun _ i1 out=>[bx aX 50 b qd,bx eu 50 b1 (fD out (Y (i.h 0).1 (i.h 0).2 out.Nodes.length)),dv cd 113 (i.h 0).1 (i.h 0).2 out.Nodes]) (Gf:=fun _ i1 out=>[(1,K rS from1),(2,K rS to1),(6,Z (al b 0)),(7,Z (al b1 0)),(13,uZ (i.h 0).1 (i.h 0).2 r.Nodes),(14,mY r.Nodes),(15,br (i1:Int))]) (fun i1 out h=>?_) (fun e tl ih i1 out h=>?_) r.Nodes 0 r ⟨I,h⟩) (bO I)
 ·obtain⟨D,h⟩:=h
  refine fH D I<|aC<|bA<|gw<|jr<|Q (oa (q:=aX) (y:=out) ic I I I I (.tail _ (.tail _ (.head _))) (fun _ _ _ ho h=>zq (ly ho (.head _)) h) (M I))<|cY<|cG ic ak I<|fh<|dV 6 I ?_;exact aZ<|aZ<|so h▸sN I ic I I I
 ·obtain⟨D,h⟩:=h
  refine fG D I<|aE<|am<|aQ I<|cV h fun e1 q_e1 h=>Q (iw sP nL (.tail _ (.tail _ (.head _))) (M I) (M I) q_e1 (nl D))<|cV h fun e2 q_e2 h=>Q (cb (r:=cd) (i:=(i1:Int)) (foff:=0) nL I I cg I (.tail _ (.tail _ (.head _))) q_e2 (M I))<|ba nL Cl I fun b2=>lI I<|cG nL ak I<|a8 9 I<|bu ?_;refine aC<|bA<|cU qL p6 mT I<|bC I<|Q (na (M I) (M I))<|eK h I (fun h=>?_) (fun h=>?_)
  ·refine aO<|ca 0 nK I<|Q (fg ye p4 (.tail _ (.head _)) I (M I))<|bC I<|bC I<|Q (bo sP nL (.tail _ (.tail _ (.head _))) (M I) (M I) q_e2)<|Q (aW (o:=(i1:Int).toNat*9+0) (n:=(i1:Int).toNat*9+7) qL I (.tail _ (.tail _ (.head _))) q_e2 (M I) I)<|gw<|cV h fun st q_st h=>ir mT I DV I q_e2 (so q_st) (M I) (M I)<|iW (dS (so q_st)) 25 I<|jm (O' :=[dv cd 113 (i.h 0).1 (i.h 0).2 st,bx aX 50 b qd,bx eu 50 b1 (fD out (Y (i.h 0).1 (i.h 0).2 st.length))]) (by first|(rw [dS (so q_st)];done)|(rw [dS (so q_st)];exact I)|exact I)<|bu<|eP D hN I<|fF<|fF ?_;exact bl (aP (ih (i1+1) ({out with Nodes:=st}:bT) ⟨eg D,h⟩) (bO I))
  ·refine ck<|eP D hN I ?_;exact bl (aP (ih (i1+1) out ⟨eg D,h⟩) (bO I))

def ZO p y{R}(h:iT p y=some R):dZ aY 28 [K aM p,K aM y] (mb R):=by
 refine fc Tryz.func28 I<|bA<|eA I<|eA I<|cJ<|co<|bA<|cU Q6 Hx IX I<|cU Q6 Hx IX I<|Q (Kz IU (M I) (M I))<|bC I<|cV h fun t q_t h=>aB I (dQ Q5 Hw I I)<|aB I (dw cI I I)<|aB I (dQ Q5 Hw I I)<|aB I (dw cI I I) ?_
 obtain⟨r,h1t,h0t⟩:=og q_t
 have q_rg:=fun H=>(h1t H).1
 exact aB I (fun hg=>bH S4 (Eu _ _ (q_rg hg)) ⟨(df I hg),(df I hg),J⟩)<|Q (cm (M I) (fun H=>(df I H)) (fun H=>(h1t H).2) h0t)<|bF I<|so h▸aT I I

def ZN p y{R}(h:iS p y=some R):dZ aY 30 [K bg p,K bg y] (mb R):=by
 refine fc Tryz.func30 I<|bA<|eA I<|eA I<|cJ<|co<|bA<|cU vv sG er I<|cU vv sG er I<|Q (sf (M I) (M I))<|bC I<|cV h fun t q_t h=>aB I (dQ Aa zb I I)<|aB I (dw cI I I)<|aB I (dQ Aa zb I I)<|aB I (dw cI I I) ?_
 obtain⟨r,h1t,h0t⟩:=og q_t
 have q_rg:=fun H=>(h1t H).1
 exact aB I (fun hg=>bH S4 (Eu _ _ (q_rg hg)) ⟨(df I hg),(df I hg),J⟩)<|Q (cm (M I) (fun H=>(df I H)) (fun H=>(h1t H).2) h0t)<|bF I<|so h▸aT I I

def ZM s1 s2{R}(h:ja s1 s2=some R):dZ aY 31 [jo (rS) s1,jo (rS) s2] (mb R):=by
 refine fc Tryz.func31 I<|bA<|cJ<|co<|bN<|bC I<|dr A8 I<|bC I<|dr A8 I<|Q (jg (M I) (M I))<|eK h I (fun h=>?_) (fun h=>?_)
 ·exact bA<|cJ<|fh<|an<|so h▸aT I I
 ·refine nG<|bN<|bC I<|dr A8 I<|Q (bG hI)<|co<|am<|bE (k:=11) I fun hN=>cc ?_;refine aP (gG (tV:=fun ls i=>(s1.drop i=ls)/\il s2 ls i=some R) (Of:=fun _ i=>[]) (Gf:=fun _ i=>[(0,jo (rS) s1),(1,jo (rS) s2),(12,mY s1),(13,br (i:Int))]) (fun i h=>?_) (fun e tl ih i h=>?_) s1 0 ⟨I,h⟩) (bO I)
  ·obtain⟨D,h⟩:=h
   exact fH D I<|aC<|bA<|cJ<|fh<|so h▸aT I I
  ·obtain⟨D,h⟩:=h
   refine fG D I<|aE<|am<|aQ I<|bP I<|aE<|cV h fun e1 q_e1 h=>?_
   refine mn (ts:=[_,_,_,_,_,_,_,_,_]) mixed I I
    ⟨kO I I,
    ⟨kO I I,
    ⟨ma 16 0 17 1 I I I (Wb A8 mT I I I (d6 D)),
    ⟨wc 2 mT I I,
    ⟨kO I I,
    ⟨kO I I,
    ⟨ma 20 4 21 5 I I I (Wb A8 mT I I I q_e1),
    ⟨wc 6 mT I I,
    ⟨ma 19 3 23 7 I I I (CL (M I) (M I)),
    J⟩⟩⟩⟩⟩⟩⟩⟩⟩ ?_
   refine aC<|u7 h I (fun h=>?_) (fun h=>?_)
   ·exact bA<|cJ<|fh<|ej<|an<|ej<|so h▸aT I I
   ·refine ck<|eP D hN I ?_;exact bl (aP (ih (i+1) ⟨eg D,h⟩) (bO I))

def Pn s1 s2{R}(h:iM s1 s2=some R):dZ aY 32 [yl s1,yl s2] (mb R):=by
 refine fc Tryz.func32 I<|bA<|cJ<|co<|bN<|bC I<|dr jL I<|bC I<|dr jL I<|Q (jg (M I) (M I))<|eK h I (fun h=>?_) (fun h=>?_)
 ·exact bA<|cJ<|fh<|an<|so h▸aT I I
 ·refine nG<|bN<|bC I<|dr jL I<|Q (bG hI)<|co<|am<|bE (k:=11) I fun hN=>cc ?_;refine aP (gG (tV:=fun ls i=>(s1.drop i=ls)/\j6 s2 ls i=some R) (Of:=fun _ i=>[]) (Gf:=fun _ i=>[(0,yl s1),(1,yl s2),(12,mY s1),(13,br (i:Int))]) (fun i h=>?_) (fun e tl ih i h=>?_) s1 0 ⟨I,h⟩) (bO I)
  ·obtain⟨D,h⟩:=h
   exact fH D I<|aC<|bA<|cJ<|fh<|so h▸aT I I
  ·obtain⟨D,h⟩:=h
   refine fG D I<|aE<|am<|aQ I<|bP I<|aE<|cV h fun e1 q_e1 h=>?_
   refine mn (ts:=[_,_,_,_,_,_,_,_,_]) mixed I I
    ⟨kO I I,
    ⟨kO I I,
    ⟨ma 16 0 17 1 I I I (Wb jL er I I I (d6 D)),
    ⟨wc 2 er I I,
    ⟨kO I I,
    ⟨kO I I,
    ⟨ma 20 4 21 5 I I I (Wb jL er I I I q_e1),
    ⟨wc 6 er I I,
    ⟨ma 19 3 23 7 I I I (jg (M I) (M I)),
    J⟩⟩⟩⟩⟩⟩⟩⟩⟩ ?_
   refine aC<|u7 h I (fun h=>?_) (fun h=>?_)
   ·exact bA<|cJ<|fh<|ej<|an<|ej<|so h▸aT I I
   ·refine ck<|eP D hN I ?_;exact bl (aP (ih (i+1) ⟨eg D,h⟩) (bO I))

def ZL s1 s2{R}(h:iC s1 s2=some R):dZ aY 33 [jo (kB) s1,jo (kB) s2] (mb R):=by
 refine fc Tryz.func33 I<|bA<|cJ<|co<|bN<|bC I<|dr F9 I<|bC I<|dr F9 I<|Q (jg (M I) (M I))<|eK h I (fun h=>?_) (fun h=>?_)
 ·exact bA<|cJ<|fh<|an<|so h▸aT I I
 ·refine nG<|bN<|bC I<|dr F9 I<|Q (bG hI)<|co<|am<|bE (k:=11) I fun hN=>cc ?_;refine aP (gG (tV:=fun ls i=>(s1.drop i=ls)/\gN s2 ls i=some R) (Of:=fun _ i=>[]) (Gf:=fun _ i=>[(0,jo (kB) s1),(1,jo (kB) s2),(12,mY s1),(13,br (i:Int))]) (fun i h=>?_) (fun e tl ih i h=>?_) s1 0 ⟨I,h⟩) (bO I)
  ·obtain⟨D,h⟩:=h
   exact fH D I<|aC<|bA<|cJ<|fh<|so h▸aT I I
  ·obtain⟨D,h⟩:=h
   refine fG D I<|aE<|am<|aQ I<|bP I<|aE<|cV h fun e1 q_e1 h=>?_
   refine mn (ts:=[_,_,_,_,_,_,_,_,_]) mixed I I
    ⟨kO I I,
    ⟨kO I I,
    ⟨ma 16 0 17 1 I I I (Wb F9 Gr I I I (d6 D)),
    ⟨wc 2 Gr I I,
    ⟨kO I I,
    ⟨kO I I,
    ⟨ma 20 4 21 5 I I I (Wb F9 Gr I I I q_e1),
    ⟨wc 6 Gr I I,
    ⟨ma 19 3 23 7 I I I (CM abs (M I) (M I)),
    J⟩⟩⟩⟩⟩⟩⟩⟩⟩ ?_
   refine aC<|u7 h I (fun h=>?_) (fun h=>?_)
   ·exact bA<|cJ<|fh<|ej<|an<|ej<|so h▸aT I I
   ·refine ck<|eP D hN I ?_;exact bl (aP (ih (i+1) ⟨eg D,h⟩) (bO I))

def ZK s1 s2 eq{R}(h:cB s1 s2 eq=some R):dZ aY 34 [jo (bU) s1,jo (bU) s2,(gZ aY V9 xG (fun(x:aF×aF)=>eq x.1 x.2))] (mb R):=by
 refine fc Tryz.func34 I<|bA<|cJ<|co<|bN<|bC I<|dr EP I<|bC I<|dr EP I<|Q (jg (M I) (M I))<|eK h I (fun h=>?_) (fun h=>?_)
 ·exact bA<|cJ<|fh<|an<|so h▸aT I I
 ·refine nG<|bN<|bC I<|dr EP I<|Q (bG hI)<|co<|am<|bE (k:=15) I fun hN=>cc ?_;refine aP (gG (tV:=fun ls i=>(s1.drop i=ls)/\cu s2 eq ls i=some R) (Of:=fun _ i=>[]) (Gf:=fun _ i=>[(1,jo (bU) s2),(2,(gZ aY V9 xG (fun(x:aF×aF)=>eq x.1 x.2))),(15,jo (bU) s1),(16,mY s1),(17,br (i:Int))]) (fun i h=>?_) (fun e tl ih i h=>?_) s1 0 ⟨I,h⟩) (bO I)
  ·obtain⟨D,h⟩:=h
   exact fH D I<|aC<|bA<|cJ<|fh<|so h▸aT I I
  ·obtain⟨D,h⟩:=h
   refine fG D I<|aE<|am<|aQ I<|i9 EP Fx I (d6 D)<|ba Fx Bc I fun b=>lI I<|cG Fx ak I<|a8 8 I<|co<|aE ?_;refine aO<|bC I<|bC I<|cV h fun e1 q_e1 h=>i9 EP Fx I q_e1<|ba Fx Bc I fun b1=>cG Fx ak I<|a8 9 I<|co<|aQ I<|d5 Fx I<|d5 Fx I<|cV h fun r q_r h=>Q (iy (args:=V9) (res:=Gg) (f:=(fun(x:aF×aF)=>eq x.1 x.2)) (x:=((e,e1):aF×aF)) (M I) q_r ⟨(M I),(M I),J⟩)<|Q (m9 (M I))<|eK h I (fun h=>?_) (fun h=>?_)
   ·exact bA<|cJ<|fh<|ej<|an<|ej<|so h▸aT I I
   ·refine ck<|eP D hN I ?_;exact bl (aP (ih (i+1) ⟨eg D,h⟩) (bO I))

def ZI s1 s2 eq{R}(h:cZ s1 s2 eq=some R):dZ aY 36 [jo (aM) s1,jo (aM) s2,(gZ aY zk9 xG (fun(x:eS×eS)=>eq x.1 x.2))] (mb R):=by
 refine fc Tryz.func36 I<|bA<|cJ<|co<|bN<|bC I<|dr F7 I<|bC I<|dr F7 I<|Q (jg (M I) (M I))<|eK h I (fun h=>?_) (fun h=>?_)
 ·exact bA<|cJ<|fh<|an<|so h▸aT I I
 ·refine nG<|bN<|bC I<|dr F7 I<|Q (bG hI)<|co<|am<|bE (k:=15) I fun hN=>cc ?_;refine aP (gG (tV:=fun ls i=>(s1.drop i=ls)/\cO s2 eq ls i=some R) (Of:=fun _ i=>[]) (Gf:=fun _ i=>[(1,jo (aM) s2),(2,(gZ aY zk9 xG (fun(x:eS×eS)=>eq x.1 x.2))),(15,jo (aM) s1),(16,mY s1),(17,br (i:Int))]) (fun i h=>?_) (fun e tl ih i h=>?_) s1 0 ⟨I,h⟩) (bO I)
  ·obtain⟨D,h⟩:=h
   exact fH D I<|aC<|bA<|cJ<|fh<|so h▸aT I I
  ·obtain⟨D,h⟩:=h
   refine fG D I<|aE<|am<|aQ I<|i9 F7 yE I (d6 D)<|ba yE Ge I fun b=>lI I<|cG yE ak I<|a8 8 I<|co<|aE ?_;refine aO<|bC I<|bC I<|cV h fun e1 q_e1 h=>i9 F7 yE I q_e1<|ba yE Ge I fun b1=>cG yE ak I<|a8 9 I<|co<|aQ I<|d5 yE I<|d5 yE I<|cV h fun r q_r h=>Q (iy (args:=zk9) (res:=Gg) (f:=(fun(x:eS×eS)=>eq x.1 x.2)) (x:=((e,e1):eS×eS)) (M I) q_r ⟨(M I),(M I),J⟩)<|Q (m9 (M I))<|eK h I (fun h=>?_) (fun h=>?_)
   ·exact bA<|cJ<|fh<|ej<|an<|ej<|so h▸aT I I
   ·refine ck<|eP D hN I ?_;exact bl (aP (ih (i+1) ⟨eg D,h⟩) (bO I))

def ZH s1 s2 eq{R}(h:dM s1 s2 eq=some R):dZ aY 37 [jo (bg) s1,jo (bg) s2,(gZ aY TD xG (fun(x:gj×gj)=>eq x.1 x.2))] (mb R):=by
 refine fc Tryz.func37 I<|bA<|cJ<|co<|bN<|bC I<|dr yu I<|bC I<|dr yu I<|Q (jg (M I) (M I))<|eK h I (fun h=>?_) (fun h=>?_)
 ·exact bA<|cJ<|fh<|an<|so h▸aT I I
 ·refine nG<|bN<|bC I<|dr yu I<|Q (bG hI)<|co<|am<|bE (k:=15) I fun hN=>cc ?_;refine aP (gG (tV:=fun ls i=>(s1.drop i=ls)/\dp s2 eq ls i=some R) (Of:=fun _ i=>[]) (Gf:=fun _ i=>[(1,jo (bg) s2),(2,(gZ aY TD xG (fun(x:gj×gj)=>eq x.1 x.2))),(15,jo (bg) s1),(16,mY s1),(17,br (i:Int))]) (fun i h=>?_) (fun e tl ih i h=>?_) s1 0 ⟨I,h⟩) (bO I)
  ·obtain⟨D,h⟩:=h
   exact fH D I<|aC<|bA<|cJ<|fh<|so h▸aT I I
  ·obtain⟨D,h⟩:=h
   refine fG D I<|aE<|am<|aQ I<|i9 yu sx I (d6 D)<|ba sx J0 I fun b=>lI I<|cG sx ak I<|a8 8 I<|co<|aE ?_;refine aO<|bC I<|bC I<|cV h fun e1 q_e1 h=>i9 yu sx I q_e1<|ba sx J0 I fun b1=>cG sx ak I<|a8 9 I<|co<|aQ I<|d5 sx I<|d5 sx I<|cV h fun r q_r h=>Q (iy (args:=TD) (res:=Gg) (f:=(fun(x:gj×gj)=>eq x.1 x.2)) (x:=((e,e1):gj×gj)) (M I) q_r ⟨(M I),(M I),J⟩)<|Q (m9 (M I))<|eK h I (fun h=>?_) (fun h=>?_)
   ·exact bA<|cJ<|fh<|ej<|an<|ej<|so h▸aT I I
   ·refine ck<|eP D hN I ?_;exact bl (aP (ih (i+1) ⟨eg D,h⟩) (bO I))

def ZG s1 s2 eq{R}(h:dm s1 s2 eq=some R):dZ aY 38 [jo (ah) s1,jo (ah) s2,(gZ aY Yx xG (fun(x:aA×aA)=>eq x.1 x.2))] (mb R):=by
 refine fc Tryz.func38 I<|bA<|cJ<|co<|bN<|bC I<|dr rl I<|bC I<|dr rl I<|Q (jg (M I) (M I))<|eK h I (fun h=>?_) (fun h=>?_)
 ·exact bA<|cJ<|fh<|an<|so h▸aT I I
 ·refine nG<|bN<|bC I<|dr rl I<|Q (bG hI)<|co<|am<|bE (k:=15) I fun hN=>cc ?_;refine aP (gG (tV:=fun ls i=>(s1.drop i=ls)/\db s2 eq ls i=some R) (Of:=fun _ i=>[]) (Gf:=fun _ i=>[(1,jo (ah) s2),(2,(gZ aY Yx xG (fun(x:aA×aA)=>eq x.1 x.2))),(15,jo (ah) s1),(16,mY s1),(17,br (i:Int))]) (fun i h=>?_) (fun e tl ih i h=>?_) s1 0 ⟨I,h⟩) (bO I)
  ·obtain⟨D,h⟩:=h
   exact fH D I<|aC<|bA<|cJ<|fh<|so h▸aT I I
  ·obtain⟨D,h⟩:=h
   refine fG D I<|aE<|am<|aQ I<|i9 rl cI I (d6 D)<|ba cI fx I fun b=>lI I<|cG cI ak I<|a8 8 I<|co<|aE ?_;refine aO<|bC I<|bC I<|cV h fun e1 q_e1 h=>i9 rl cI I q_e1<|ba cI fx I fun b1=>cG cI ak I<|a8 9 I<|co<|aQ I<|d5 cI I<|d5 cI I<|cV h fun r q_r h=>Q (iy (args:=Yx) (res:=Gg) (f:=(fun(x:aA×aA)=>eq x.1 x.2)) (x:=((e,e1):aA×aA)) (M I) q_r ⟨(M I),(M I),J⟩)<|Q (m9 (M I))<|eK h I (fun h=>?_) (fun h=>?_)
   ·exact bA<|cJ<|fh<|ej<|an<|ej<|so h▸aT I I
   ·refine ck<|eP D hN I ?_;exact bl (aP (ih (i+1) ⟨eg D,h⟩) (bO I))

def ZJ join agg p y{R}(h:mX join agg p y=some R):dZ aY 35 [K bU p,K bU y,bt (rT ((gZ aY zk9 xG (fun(x:eS×eS)=>join x.1 x.2)))) (),bt (rT ((gZ aY TD xG (fun(x:gj×gj)=>agg x.1 x.2)))) ()] (mb R):=by
 refine fc Tryz.func35 I<|bA<|eA I<|eA I<|cJ<|co<|bA<|cU BJ oQ IX I<|cU BJ oQ IX I<|Q (Kz IU (M I) (M I))<|bC I<|aB I (dQ Pc C2 I I)<|aB I (dw IX I I)<|aB I (dQ Pc C2 I I)<|aB I (dw IX I I)<|aB I (fun hg=>Kz IU (df I hg) (df I hg))<|j5 I<|bC I<|cV h fun t q_t h=>?_;refine aB I (dQ HB C6 I I)<|aB I (dw ky I I)<|aB I (dQ HB C6 I I)<|aB I (dw ky I I) ?_
 obtain⟨r,h1t,h0t⟩:=og q_t
 have q_rg:=fun H=>(h1t H).1
 refine aB I (fun hg=>bH aab (Pn _ _ (q_rg hg)) ⟨(df I hg),(df I hg),J⟩)<|Q (cm (M I) (fun H=>(df I H)) (fun H=>(h1t H).2) h0t)<|bC I<|cV h fun t1 q_t1 h=>aB I (dQ Ep C1 I I)<|aB I (dw ky I I)<|aB I (dQ Ep C1 I I)<|aB I (dw ky I I) ?_
 obtain⟨r1,h1t1,h0t1⟩:=og q_t1
 have q_r1g:=fun H=>(h1t1 H).1
 refine aB I (fun hg=>bH aab (Pn _ _ (q_r1g hg)) ⟨(df I hg),(df I hg),J⟩)<|Q (cm (M I) (fun H=>(df I H)) (fun H=>(h1t1 H).2) h0t1)<|bP I<|aQ I<|bC I<|cV h fun t2 q_t2 h=>aB I (dQ Pe C4 I I)<|aB I (dw cI I I)<|aB I (dQ Pe C4 I I)<|aB I (dw cI I I) ?_
 obtain⟨r2,h1t2,h0t2⟩:=og q_t2
 have q_r2g:=fun H=>(h1t2 H).1
 refine aB I (fun hg=>bH S4 (Eu _ _ (q_r2g hg)) ⟨(df I hg),(df I hg),J⟩)<|Q (cm (M I) (fun H=>(df I H)) (fun H=>(h1t2 H).2) h0t2)<|bC I<|cV h fun t3 q_t3 h=>aB I (dQ Pd C3 I I)<|aB I (dw cI I I)<|aB I (dQ Pd C3 I I)<|aB I (dw cI I I) ?_
 obtain⟨r3,h1t3,h0t3⟩:=og q_t3
 have q_r3g:=fun H=>(h1t3 H).1
 refine aB I (fun hg=>bH S4 (Eu _ _ (q_r3g hg)) ⟨(df I hg),(df I hg),J⟩)<|Q (cm (M I) (fun H=>(df I H)) (fun H=>(h1t3 H).2) h0t3)<|bP I<|aQ I<|bC I<|cV h fun t4 q_t4 h=>aB I (dQ KO C5 I I)<|aB I (dw Wi I I)<|aB I (dQ KO C5 I I)<|aB I (dw Wi I I)<|aB I (fun hg=>pp TQ (M I)) ?_
 obtain⟨r4,h1t4,h0t4⟩:=og q_t4
 have q_r4g:=fun H=>(h1t4 H).1
 refine aB I (fun hg=>bH adp (ZI _ _ _ (q_r4g hg)) ⟨(df I hg),(df I hg),(df I hg),J⟩)<|Q (cm (M I) (fun H=>(df I H)) (fun H=>(h1t4 H).2) h0t4)<|bC I<|cV h fun t5 q_t5 h=>aB I (dQ BI C0 I I)<|aB I (dw NX I I)<|aB I (dQ BI C0 I I)<|aB I (dw NX I I)<|aB I (fun hg=>pp TP (M I)) ?_
 obtain⟨r5,h1t5,h0t5⟩:=og q_t5
 have q_r5g:=fun H=>(h1t5 H).1
 refine aB I (fun hg=>bH ado (ZH _ _ _ (q_r5g hg)) ⟨(df I hg),(df I hg),(df I hg),J⟩)<|Q (cm (M I) (fun H=>(df I H)) (fun H=>(h1t5 H).2) h0t5)<|bC I<|cV h fun t6 q_t6 h=>aB I (dQ zd xg I I)<|aB I (dw Lz I I)<|aB I (dQ zd xg I I)<|aB I (dw Lz I I) ?_
 obtain⟨r6,h1t6,h0t6⟩:=og q_t6
 have q_r6g:=fun H=>(h1t6 H).1
 exact aB I (fun hg=>bH adn (ZG _ _ _ (q_r6g hg)) ⟨(df I hg),(df I hg),(V2 S4 fun x y h=>Eu _ _ h),J⟩)<|Q (cm (M I) (fun H=>(df I H)) (fun H=>(h1t6 H).2) h0t6)<|bF I<|so h▸aT I I

def abb a1 b{R}(h:ue a1 b=some R):dZ aY 9 [K cP a1,K cP b] (mb R):=by
 refine fc Tryz.func9 I<|bA<|eA I<|eA I<|cJ<|co<|bA<|ba (r:=rV) (x:= .nilFunc) TQ (fun _=>⟨I,I⟩) I fun b1=>jl (em (r' :=rT (TE)) (x' :=()) (q:=rT (TE)) (y:=()) TQ I (fB I) I (M I) (YZ Ku (show aL _ _ _ (TE)from(V2 adv fun x y h=>ZO _ _ h)))) fun _=>?_;refine(show RG _ _ _ _ (bx (rT (TE)) 117 b1 ()::_) _ from ?_);refine a8 5 I<|co<|bA<|ba (r:=rV) (x:= .nilFunc) TP (fun _=>⟨I,I⟩) I fun b2=>jl (em (r' :=rT (TF)) (x' :=()) (q:=rT (TF)) (y:=()) TP I (fB I) I (M I) (YZ Ku (show aL _ _ _ (TF)from(V2 adu fun x y h=>ZN _ _ h)))) fun _=>?_;refine(show RG _ _ _ _ (bx (rT (TF)) 120 b2 ()::_) _ from ?_);refine a8 6 I<|co<|bA<|cU U5 Hu er I<|cU U5 Hu er I<|Q (sf (M I) (M I))<|bC I<|cV h fun t q_t h=>aB I (dQ Et xf I I)<|aB I (dw RS I I)<|aB I (dQ Et xf I I)<|aB I (dw RS I I) ?_
 obtain⟨r,h1t,h0t⟩:=og q_t
 have q_rg:=fun H=>(h1t H).1
 refine aB I (fun hg=>bH adt (ZM _ _ (q_rg hg)) ⟨(df I hg),(df I hg),J⟩)<|Q (cm (M I) (fun H=>(df I H)) (fun H=>(h1t H).2) h0t)<|bC I<|cV h fun t1 q_t1 h=>aB I (dQ HI BF I I)<|aB I (dw ky I I)<|aB I (dQ HI BF I I)<|aB I (dw ky I I) ?_
 obtain⟨r1,h1t1,h0t1⟩:=og q_t1
 have q_r1g:=fun H=>(h1t1 H).1
 refine aB I (fun hg=>bH aab (Pn _ _ (q_r1g hg)) ⟨(df I hg),(df I hg),J⟩)<|Q (cm (M I) (fun H=>(df I H)) (fun H=>(h1t1 H).2) h0t1)<|bC I<|cV h fun t2 q_t2 h=>aB I (dQ KT Hv I I)<|aB I (dw Wj I I)<|aB I (dQ KT Hv I I)<|aB I (dw Wj I I) ?_
 obtain⟨r2,h1t2,h0t2⟩:=og q_t2
 have q_r2g:=fun H=>(h1t2 H).1
 refine aB I (fun hg=>bH ads (ZL _ _ (q_r2g hg)) ⟨(df I hg),(df I hg),J⟩)<|Q (cm (M I) (fun H=>(df I H)) (fun H=>(h1t2 H).2) h0t2)<|bC I<|cV h fun t3 q_t3 h=>aB I (dQ HJ BG I I)<|aB I (dw TN I I)<|aB I (dQ HJ BG I I)<|aB I (dw TN I I)<|aB I (fun hg=>(show ce _ _ _ _ ((gZ aY V9 xG (fun(x:aF×aF)=>(mX iT iS) x.1 x.2)))from n9 (cts:=[bt (rT (TE)) (),bt (rT (TF)) ()]) (caps:=[.tmp 5,.tmp 6]) adq ⟨(M I),(M I),J⟩ (fun x y h=>ZJ _ _ _ _ h))) ?_
 obtain⟨r3,h1t3,h0t3⟩:=og q_t3
 have q_r3g:=fun H=>(h1t3 H).1
 exact aB I (fun hg=>bH adr (ZK _ _ _ (q_r3g hg)) ⟨(df I hg),(df I hg),(df I hg),J⟩)<|Q (cm (M I) (fun H=>(df I H)) (fun H=>(h1t3 H).2) h0t3)<|bF I<|so h▸aT I I

end Go.Proofs.YtigldkegamffhaaGreatDoor

