/- de of this claim: P1. -/
import Derived.Test.YtigldkegamffhaaGreatDoorBfT
import Derived.Test.YtigldkegamffhaaGreatDoorBfP0
set_option linter.all false
namespace Go.Proofs.YtigldkegamffhaaGreatDoor
open Go
set_option maxRecDepth 100000

def ZB s f{R}(h:eH s f=some R):dZ aY 47 [jo (aR) s,(gZ aY V6 xG (fun(x:ae)=>f x))] (mb R):=by
 exact fc Tryz.func47 I<|bA<|cJ<|co<|aQ I<|bC I<|jE h ac1 (Zr _ _) (gm I) fun r h=>Q (lQ (M I) hI)<|bF I<|so h▸aT I I

def KZ s{R}(h:rL s=some R):dZ aY 72 [K rS s] (mb R):=by
 refine fc Tryz.func72 I<|bA<|cJ<|co<|aQ I<|Q (na (M I) hS)<|bC I<|cV h fun t q_t h=>bY I (gB I) ?_
 obtain⟨r,h1t,h0t⟩:=og q_t
 have q_rg:=fun H=>(h1t H).1
 exact bY I (fun hg=>bH MW (zg _ (q_rg hg)) ⟨(df I hg),J⟩)<|Q (gV (M I) (fun H=>(df I (yf H))) (fun H=>(h1t H).2) h0t)<|bF I<|so h▸aT I I

def Vc s{R}(h:uQ s=some R):dZ aY 70 [K fS s] (mb R):=by
 refine fc Tryz.func70 I<|bA<|eA I<|cJ<|co<|bA<|cU HH sE mT I<|jE h MW (zg _) (gm I) fun r h=>bC I<|cV h fun t q_t h=>aB I (dQ Es sD I I)<|aB I (dw mT I I) ?_
 obtain⟨r1,h1t,h0t⟩:=og q_t
 have q_r1g:=fun H=>(h1t H).1
 exact aB I (fun hg=>bH XA (KZ _ (q_r1g hg)) ⟨(df I hg),J⟩)<|Q (cm (M I) (fun H=>(df I H)) (fun H=>(h1t H).2) h0t)<|bF I<|so h▸aT I I

def Xi s f{R}(h:iH s f=some R):dZ aY 125 [jo (aX) s,(gZ aY V5 xG (fun(x:bT)=>f x))] (br R):=by
 refine fc Tryz.func125 I<|bA<|dg<|co<|bN<|bC I<|dr Lo I<|Q (bG hI)<|co<|am<|bE (k:=6) I fun hN=>cc ?_;refine aP (gG (tV:=fun ls i=>(s.drop i=ls)/\fy f ls i=some R) (Of:=fun _ i=>[]) (Gf:=fun _ i=>[(0,jo (aX) s),(1,(gZ aY V5 xG (fun(x:bT)=>f x))),(7,mY s),(8,br (i:Int))]) (fun i h=>?_) (fun e tl ih i h=>?_) s 0 ⟨I,h⟩) (bO I)
 ·obtain⟨D,h⟩:=h
  exact fH D I<|aC<|bA<|iG<|so h▸aT I I
 ·obtain⟨D,h⟩:=h
  refine fG D I<|aE<|am<|aQ I<|bP I<|aQ I<|bC I<|bC I<|xH Lo ic I (d6 D) ?_;refine d5 ic I<|cV h fun r q_r h=>Q (iy (args:=V5) (res:=Gg) (f:=(fun(x:bT)=>f x)) (x:=((e):bT)) (M I) q_r ⟨(M I),J⟩)<|eK h I (fun h=>?_) (fun h=>?_)
  ·exact aQ I<|bF I<|ej<|an<|ej<|so h▸aT I I
  ·refine ck<|eP D hN I ?_;exact bl (aP (ih (i+1) ⟨eg D,h⟩) (bO I))

def Zk s f{R}(h:hM s f=some R):dZ aY 92 [jo (aX) s,(gZ aY V5 xG (fun(x:bT)=>f x))] (mb R):=by
 exact fc Tryz.func92 I<|bA<|cJ<|co<|aQ I<|bC I<|jE h abZ (Xi _ _) (gm I) fun r h=>Q (lQ (M I) hI)<|bF I<|so h▸aT I I

def WZ tag{R}(h:Af tag=some R):dZ aY 140 [br tag] (br R):=by
 refine fc Tryz.func140 I<|bA<|dg<|co<|aE<|am<|aQ I<|Q (jh (M I) hI)<|bC I<|bY I (gB I)<|bY I (fun hg=>lP (df I hg) hI)<|ph I<|bP I<|u7 h I (fun h=>?_) (fun h=>?_)
 ·exact bA<|iG<|ej<|so h▸aT I I
 ·refine aQ I<|Q (pJ (M I) hI)<|bP I<|u7 h I (fun h=>?_) (fun h=>?_)
  ·exact bA<|iG<|ej<|so h▸aT I I
  ·refine aQ I<|Q (pJ (M I) hI)<|bP I<|u7 h I (fun h=>?_) (fun h=>?_)
   ·exact bA<|iG<|ej<|so h▸aT I I
   ·exact ck<|bW<|aC<|bA<|iG<|so h▸aT I I

def WU v{R}(h:yy v=some R):dZ aY 166 [K eY v] (K eY R):=by
 refine fc Tryz.func166 I<|bA<|Dp (M I) I fun b=>ba yC uo I fun b1=>co<|bN<|ca 0 Er I<|Q (bn er I I xc (.tail _ (.head _)) (M I))<|co ?_;refine JW (tV:=fun v1=>kP v1=some R) (Of:=fun v1=>[bx eY 71 b v1,bx eY 71 b1 NJ]) (Gf:=fun v1=>[(1,Z (al b 0)),(2,Z (al b1 0))]) (fun v1 h=>?_) (fun tD=>?_)
 ·skip
  exact aC<|bA<|Q (bn yC I I cg (.head _) (M I))<|cY<|cG yC ak I<|a8 2 I<|fh<|aZ<|so h▸sN I yC I I I
 ·skip
  refine aE<|am<|aE<|am<|aE ?_;refine JW (tV:=fun v2=>qn v2=some R) (Of:=fun v2=>[bx eY 71 b v2,bx eY 71 b1 NJ]) (Gf:=fun v2=>[(1,Z (al b 0)),(2,Z (al b1 0))]) (fun v2 h=>?_) (fun K1=>?_)
  ·skip
   refine aC<|bA<|ca 0 Er I<|jJ er I Bm I (M I) hI<|co<|gH<|cN I<|aH<|cN I<|aH<|dA ?_;exact ed (tD (cr.mk (0:Int) v2.N v2.U v2.S) h) (bO I)
  ·skip
   refine aE ?_;refine Ts (tV:=qm v=some R) (Of:=[bx eY 71 b v,bx eY 71 b1 NJ]) (Gf:=[(1,Z (al b 0)),(2,Z (al b1 0))]) (fun h=>?_) (fun K2=>?_)
   ·skip
    refine aC<|aO<|ca 1 HE I<|jJ ti2 I GA I (M I) hI<|bu<|bW ?_;exact ed (K1 (cr.mk v.Kind (0:Int) v.U v.S) h) (bO I)
   ·skip
    refine aE<|am<|aE<|bN<|jK I<|bP I<|u7 h I (fun h=>?_) (fun h=>?_)
    ·refine gH<|aH<|aH<|dA<|aC<|bA<|ca 1 HE I<|Q (bn ti2 I I xb (.tail _ (.head _)) (M I))<|mp I<|bC I<|aB I (fun hg=>qX 1 HE I I I)<|aB I (fun hg=>bn ti2 I I xb (.tail _ (.head _)) (df I hg))<|aB I (EV I)<|j5 I<|eK h I (fun h=>?_) (fun h=>?_)
     ·refine gH<|cN I<|aH<|cN I<|aH<|cN I<|aH<|cN I<|aH<|dA<|dW ?_;exact ed (tD v h) (bO I)
     ·refine ck<|bW<|dW ?_;exact ed (K2 h) (bO I)
    ·refine nG<|bN<|jK I<|bP I<|u7 h I (fun h=>?_) (fun h=>?_)
     ·refine gH<|aH<|aH<|cN I<|aH<|dA<|dW ?_;exact ed (K2 h) (bO I)
     ·refine nG<|bN<|jK I<|bP I<|u7 h I (fun h=>?_) (fun h=>?_)
      ·refine gH<|aH<|aH<|cN I<|aH<|cN I<|aH<|dA<|dW ?_;exact ed (K1 v h) (bO I)
      ·refine nG<|bN<|jK I<|bP I<|u7 h I (fun h=>?_) (fun h=>?_)
       ·refine gH<|aH<|aH<|cN I<|aH<|cN I<|aH<|cN I<|aH<|dA<|aC ?_;refine oZ (tV:=fun v3=>qk v3=some R) (Of:=fun v3=>[bx eY 71 b v3,bx eY 71 b1 NJ]) (Gf:=fun v3=>[(1,Z (al b 0)),(2,Z (al b1 0))]) (fun v3 h=>?_) (fun K3=>?_)
        ·skip
         refine gH<|cN I<|aH<|dA ?_;exact ed (tD v3 h) (bO I)
        ·skip
         refine bA<|ca 3 xi I<|Q (bn mT I I pO (.tail _ (.head _)) (M I))<|Q (tK i6 (M I))<|Q (pJ (M I) hI)<|eK h I (fun h=>?_) (fun h=>?_)
         ·refine aO<|ca 0 Er I<|cY<|jJ er I Bm I (M I) hI<|ca 3 xi I<|jJ mT I Bl I (M I) hS<|bu ?_;exact ed (K3 (cr.mk (0:Int) v.N v.U ([])) h) (bO I)
         ·refine ck<|dW ?_;exact ed (K3 v h) (bO I)
       ·refine nG<|bA<|jK I<|bP I<|u7 h I (fun h=>?_) (fun h=>?_)
        ·refine gH<|aH<|cN I<|aH<|cN I<|aH<|cN I<|aH<|cN I<|aH<|dA<|aC<|bA<|ca 0 Er I<|cY<|jJ er I Bm I (M I) hI<|ca 1 HE I<|jJ ti2 I GA I (M I) hI<|ca 2 Za I<|jJ aaG I N5 I (M I) hI<|co<|gH ?_;refine dA ?_;exact ed (tD (cr.mk (0:Int) (0:Int) (0:Int) v.S) h) (bO I)
        ·refine nG<|gH<|cN I<|aH<|cN I<|aH<|cN I<|aH<|cN I<|aH<|cN I<|aH<|dA<|dW ?_;exact ed (tD v h) (bO I)

def WV v{R}(h:u9 v=some R):dZ aY 159 [K eY v] (br R):=by
 refine fc Tryz.func159 I<|bA<|eA I<|dg<|co<|bN<|d5 yC I<|jE h abK (WU _) (gm I) fun r h=>Q (cQ yC WM uo I)<|Q (CM Xu (M I) (M I))<|eK h I (fun h=>?_) (fun h=>?_)
 ·exact bA<|iG<|an<|so h▸aT I I
 ·exact nG<|bA<|iG<|so h▸aT I I

def Rk v{R}(h:sw v=some R):dZ aY 143 [K eY v] (mb R):=by
 exact fc Tryz.func143 I<|bA<|eA I<|cJ<|co<|bA<|d5 yC I<|jE h abM (WV _) (gm I) fun r h=>jK I<|bC I<|aB I (dQ Er xc I I)<|aB I (dw er I I)<|aB I (EV I)<|j5 I<|bF I<|so h▸aT I I

def WW s{R}(h:zw s=some R):dZ aY 158 [K rS s] (mb R):=by
 refine fc Tryz.func158 I<|bA<|cJ<|co<|bN<|bC I<|Q (tK i6 (M I))<|Q (bG hI)<|co<|am<|cc ?_;refine aP (RB (tV:=fun n x=>ou s n x=some R) (Of:=fun x=>[]) (Gf:=fun x=>[(0,K rS s),(5,mY s),(6,br x)]) (fun x h=>nn h) (fun n ih x h=>?_) iB (0:Int) h) (bO I);refine d7<|bA<|uq I<|co<|aE<|u7 h I (fun h=>?_) (fun h=>?_)
 ·refine nG<|aE<|am<|aQ I<|bP I<|aQ I<|bC I<|cV h fun b q_b h=>Q (D7 i6 (M I) (M I) q_b)<|Q (jh (M I) hI)<|bC I<|cV h fun t q_t h=>bY I (gB I)<|bY I (gB I) ?_
  obtain⟨b1,h1t,h0t⟩:=og q_t
  have q_b1g:=fun H=>(h1t H).1
  refine bY I (fun hg=>D7 i6 (df I hg) (df I hg) (q_b1g hg))<|bY I (fun hg=>lP (df I hg) hI)<|Q (gV (M I) (fun H=>(df I (yf H))) (fun H=>(h1t H).2) h0t)<|eK h I (fun h=>?_) (fun h=>?_)
  ·exact bA<|cJ<|fh<|ej<|an<|ej<|so h▸aT I I
  ·refine ck<|bW<|aC<|aO<|Q (vO (M I) hI)<|bC I<|bu ?_;exact bl (aP (ih (IntKind.i64.wrap (x+(1:Int))) h) (bO I))
 ·exact gH<|aH<|aH<|dA<|aC<|bA<|cJ<|fh<|so h▸aT I I

def WY n{R}(h:xv n=some R):dZ aY 141 [K cd n] (mb R):=by
 refine fc Tryz.func141 I<|bA<|eA I<|cJ<|co<|aE ?_
 refine mn (ts:=[_,_,_,_,_,_,_,_,_,_,_,_,_,_]) mixed I I
  ⟨DF 1 I I (AC qL p6 I I),
  ⟨wc 0 mT I I,
  ⟨mU 6 1 I I (CL (M I) hS),
  ⟨mU 7 2 I I (jM I),
  ⟨RI 1 8 3 I I I (xC I I I I (fun hg=>AC sj p5 I I)),
  ⟨Fu 9 4 8 3 I I I (xC I I I I (fun hg=>nO mT I I (df I hg))),
  ⟨Fu 10 5 8 3 I I I (xC I I I I (fun hg=>CL (df I hg) hS)),
  ⟨ma 8 3 11 6 I I I (zpo I I),
  ⟨DF 1 I I (AC qM mE I I),
  ⟨wc 8 yC I I,
  ⟨zd0 I (cQ yC WM uo I),
  ⟨ma 14 9 15 10 I I I (CM Xu (M I) (M I)),
  ⟨mU 12 7 I I (IV I),
  ⟨mU 16 11 I I (IV I),
  J⟩⟩⟩⟩⟩⟩⟩⟩⟩⟩⟩⟩⟩⟩ ?_
 refine aC<|bN<|cU vw p7 er I<|co<|am<|bA<|jK I<|bP I<|u7 h I (fun h=>?_) (fun h=>?_)
 ·refine aQ I<|Q (m9 (M I))<|bC I<|cV h fun t q_t h=>aB I (dQ qM mE I I)<|aB I (dw yC I I) ?_
  obtain⟨r,h1t,h0t⟩:=og q_t
  have q_rg:=fun H=>(h1t H).1
  refine aB I (fun hg=>bH Yd (Rk _ (q_rg hg)) ⟨(df I hg),J⟩)<|Q (cm (M I) (fun H=>(df I H)) (fun H=>(h1t H).2) h0t)<|bC I<|aB I (dQ qM mE I I)<|aB I (fun hg=>kD HE I xb I (df I hg))<|aB I (dw ti2 I I)<|aB I (fun hg=>lQ (df I hg) hI)<|j5 I<|bC I<|cV h fun t1 q_t1 h=>aB I (dQ qM mE I I)<|aB I (fun hg=>kD xi I pO I (df I hg))<|aB I (dw mT I I) ?_
  obtain⟨r1,h1t1,h0t1⟩:=og q_t1
  have q_r1g:=fun H=>(h1t1 H).1
  exact aB I (fun hg=>bH abN (WW _ (q_r1g hg)) ⟨(df I hg),J⟩)<|Q (cm (M I) (fun H=>(df I H)) (fun H=>(h1t1 H).2) h0t1)<|bF I<|ej<|so h▸aT I I
 ·refine bA<|jK I<|bP I<|u7 h I (fun h=>?_) (fun h=>?_)
  ·refine aQ I<|Q (m9 (M I))<|bC I<|cV h fun t2 q_t2 h=>aB I (dQ sj p5 I I)<|aB I (dw mT I I) ?_
   obtain⟨r2,h1t2,h0t2⟩:=og q_t2
   have q_r2g:=fun H=>(h1t2 H).1
   refine aB I (fun hg=>bH MW (zg _ (q_r2g hg)) ⟨(df I hg),J⟩)<|Q (cm (M I) (fun H=>(df I H)) (fun H=>(h1t2 H).2) h0t2)<|bC I<|cV h fun t3 q_t3 h=>aB I (dQ qL p6 I I)<|aB I (dw mT I I) ?_
   obtain⟨r3,h1t3,h0t3⟩:=og q_t3
   have q_r3g:=fun H=>(h1t3 H).1
   exact aB I (fun hg=>bH XA (KZ _ (q_r3g hg)) ⟨(df I hg),J⟩)<|Q (cm (M I) (fun H=>(df I H)) (fun H=>(h1t3 H).2) h0t3)<|bF I<|ej<|so h▸aT I I
  ·exact ck<|bW<|aC<|aQ I<|Q (m9 (M I))<|bC I<|aB I (gB I)<|aB I (Cp I)<|j5 I<|bF I<|so h▸aT I I

def Xh t{R}(h:Ez t=some R):dZ aY 126 [K aX t] (tT [jo (ie) R.1,mb R.2]):=by
 refine fc Tryz.func126 I<|bA<|eA I<|AE (ie)<|cJ<|co<|bA<|cM false ie 238<|Q (cR F1)<|co<|bA<|cM false aU 3<|Q (cR F1)<|co<|bN<|AD nK lm I ?_;refine d5 ye I<|dr sP I<|Q (bG hI)<|co<|am<|bE (k:=15) I fun hN=>cc<|gx ?_;refine aP (Ih (tV:=fun ls i all l c open1 l1 c1=>(t.Nodes.drop i=ls)/\nw ls i all open1=some R) (Of:=fun _ i all l c open1 l1 c1=>[dv ie 238 l c all,dv aU 3 l1 c1 open1]) (Gf:=fun _ i all l c open1 l1 c1=>[(4,uZ l c all),(5,uZ l1 c1 open1),(15,jo (cd) t.Nodes),(16,mY t.Nodes),(17,br (i:Int))]) (fun i all l c open1 l1 c1 h=>?_) (fun e tl ih i all l c open1 l1 c1 h=>?_) t.Nodes 0 ([]:List kZ) none 0 Fs none 0 ⟨I,h⟩) (bO I)
 ·obtain⟨D,h⟩:=h
  refine fH D I<|aC<|aE<|cV h fun t1 q_t1 h=>?_
  obtain⟨e1,h1t1,h0t1⟩:=og q_t1
  have q_e1g:=fun H=>(h1t1 H).1
  refine mn (ts:=[_,_,_,_,_,_,_,_,_,_,_,_,_,_,_,_,_,_,_,_,_]) mixed I I
   ⟨kO I I,
   ⟨kO I I,
   ⟨mU 105 1 I I (fa jL (.tail _ (.head _)) (M I)),
   ⟨mU 106 2 I I (zei I),
   ⟨mU 107 3 I I (jM I),
   ⟨RI 4 108 4 I I I (uY I I I I (fun hg=>jM I)),
   ⟨Fu 109 5 108 4 I I I (uY I I I I (fun hg=>fa ER (.head _) (df I hg))),
   ⟨Fu 110 6 108 4 I I I (uY I I I I (fun hg=>pJ (df I hg) hI)),
   ⟨ma 108 4 111 7 I I I (zpa I I),
   ⟨mU 112 8 I I (jM I),
   ⟨RI 4 113 9 I I I (uY I I I I (fun hg=>jM I)),
   ⟨RI 4 113 9 I I I (uY I I I I (fun hg=>jM I)),
   ⟨Fu 115 11 113 9 I I I (uY I I I I (fun hg=>fa ER (.head _) (df I hg))),
   ⟨Fu 116 12 113 9 I I I (uY I I I I (fun hg=>qF (df I hg) hI)),
   ⟨XS 114 10 117 13 113 9 I I I I (uY I I I I (fun hg=>bo ER AG (.head _) (df I hg) (df I hg) (q_e1g hg))),
   ⟨Fu 118 14 113 9 I I I (uY I I I I (fun hg=>aW (o:=(IntKind.i64.wrap ((all.length:Int)-(1:Int))).toNat*2+0) (n:=(IntKind.i64.wrap ((all.length:Int)-(1:Int))).toNat*2+1) C7 I (.head _) (q_e1g hg) (df I hg) I)),
   ⟨Fu 119 15 113 9 I I I (uY I I I I (fun hg=>cb (r:=ie) (i:=(IntKind.i64.wrap ((all.length:Int)-(1:Int)))) (foff:=1) er I I xa I (.head _) (q_e1g hg) (df I hg))),
   ⟨Fu 120 16 113 9 I I I (uY I I I I (fun hg=>pJ (df I hg) hI)),
   ⟨ma 113 9 121 17 I I I (cm (M I) (fun H=>(df I H)) (fun H=>(h1t1 H).2) h0t1),
   ⟨mU 104 0 I I (IV I),
   ⟨mU 122 18 I I (IV I),
   J⟩⟩⟩⟩⟩⟩⟩⟩⟩⟩⟩⟩⟩⟩⟩⟩⟩⟩⟩⟩⟩ ?_
  exact aC<|zE<|Al<|mS 4 I<|mS 104 I<|mS 2 I<|qb 2 I<|aZ<|aZ<|so h▸gP I I I
 ·obtain⟨D,h⟩:=h
  refine fG D I<|aE<|am<|aQ I<|i9 sP nL I (d6 D)<|ba nL Cl I fun b=>lI I<|cG nL ak I<|a8 7 I<|co<|aE ?_;refine aO<|cU vw p7 er I<|jE h abR (WZ _) (gm I) fun r h=>bP I<|bN<|bC I<|Q (jh (M I) hI)<|bC I<|bY I (gB I)<|bY I (gB I)<|bY I (fun hg=>fa jL (.tail _ (.head _)) (df I hg))<|bY I (fun hg=>lP (df I hg) (df I hg))<|ph I<|bC I<|cV h fun t2 q_t2 h=>bY I (fun hg=>wx nL I I) ?_
  obtain⟨r1,h1t2,h0t2⟩:=og q_t2
  have q_r1g:=fun H=>(h1t2 H).1
  refine bY I (fun hg=>bH abQ (WY _ (q_r1g hg)) ⟨(df I hg),J⟩)<|bY I (Cp I)<|Q (gV (M I) (fun H=>(df I (yf H))) (fun H=>(h1t2 H).2) h0t2)<|eK h I (fun h=>?_) (fun h=>?_)
  ·exact bA<|AE (ie)<|cJ<|fh<|an<|ej<|an<|ej<|aZ<|aZ<|so h▸gP I I I
  ·refine nG<|aQ I<|bC I<|Q (fa jL (.tail _ (.head _)) (M I))<|bC I<|Q (qF (M I) (M I))<|cV h fun y q_y h=>Q (sC jL er I (.tail _ (.head _)) (M I) (M I) q_y)<|qU (.tail _ (.head _)) q_y fun hv=>bP I<|bA<|jw (r:=aU) (ys:=[lJ,lJ]) (xs:=[.const (.int .i64 (-1)),.const (.int .i64 (-1))]) jL er I I I I I ⟨hI,hI,J⟩ I fun l2 c2=>bP I<|aQ I ?_;refine bC I<|cV h fun cp q_cp h=>pd (Pt (.tail _ (.tail _ (.head _))) q_y jL (Wh er) (M I) (M I) (so q_cp)) I fun i1=>?_;refine(show RG _ _ _ _ [_,_,_] ((47,br ((min y.length ([lJ,lJ]).length:Nat):Int))::_)from ?_);refine iW (HS (so q_cp)) 44 I<|iW (HS (so q_cp)) 10 I<|iW (HS (so q_cp)) 45 I<|co<|aE<|aE<|cV h fun e2 q_e2 h=>cV h fun t3 q_t3 h=>?_
   obtain⟨e3,h1t3,h0t3⟩:=og q_t3
   have q_e3g:=fun H=>(h1t3 H).1
   refine mn (ts:=[_,_,_,_,_,_,_,_,_,_,_,_,_,_]) mixed I I
    ⟨DF 7 I I (AC Q8 JC I I),
    ⟨wc 0 er I I,
    ⟨kO I I,
    ⟨mU 50 2 I I (bo jL er (.head _) (M I) hI q_e2),
    ⟨mU 51 3 I I (cb (r:=aU) (i:=(0:Int)) (foff:=0) er I I cg I (.head _) q_e2 (M I)),
    ⟨ma 49 1 52 4 I I I (jg (M I) (M I)),
    ⟨mU 53 5 I I (jM I),
    ⟨RI 7 54 6 I I I (xC I I I I (fun hg=>AC Q7 JB I I)),
    ⟨Fu 55 7 54 6 I I I (xC I I I I (fun hg=>nO er I I (df I hg))),
    ⟨RI 10 54 6 I I I (xC I I I I (fun hg=>jM I)),
    ⟨Fu 57 9 54 6 I I I (xC I I I I (fun hg=>bo jL er (.head _) (df I hg) hI (q_e3g hg))),
    ⟨Fu 58 10 54 6 I I I (xC I I I I (fun hg=>cb (r:=aU) (i:=(1:Int)) (foff:=0) er I I cg I (.head _) (q_e3g hg) (df I hg))),
    ⟨XS 56 8 59 11 54 6 I I I I (xC I I I I (fun hg=>jg (df I hg) (df I hg))),
    ⟨ma 54 6 60 12 I I I (gV (M I) (fun H=>(df I (yf H))) (fun H=>(h1t3 H).2) h0t3),
    J⟩⟩⟩⟩⟩⟩⟩⟩⟩⟩⟩⟩⟩⟩ ?_
   refine aC<|u7 h I (fun h=>?_) (fun h=>?_)
   ·exact bA<|AE (ie)<|cJ<|fh<|an<|ej<|an<|ej<|aZ<|aZ<|aZ<|so h▸gP I I I
   ·refine nG<|aQ I<|Q (cQ (y:=(⟨(i:Int),(1:Int)⟩:kZ)) AG aa3 Lt (⟨_,_,_,_,_,I,Gz,I,(M I),⟨_,_,_,_,_,I,Gy,I,hI,I⟩⟩))<|ba AG Lt I fun b1=>cG AG ak I<|co<|bN<|bC I<|Q (QF jL (.tail _ (.tail _ (.tail _ (.head _)))) q_y (M I))<|Q (bG hI)<|co<|am ?_
    have hN1:=hv.2
    refine cc<|gx<|F3<|jt<|jt ?_;refine aP (gY (tV:=fun ls1 i2 b2=>(y.drop i2=ls1)/\oV (nw tl) i all open1 r ls1 b2=some R) (Of:=fun _ i2 b2=>[dv ie 238 l c all,dv aU 3 l1 c1 open1,bx ie 238 b1 b2]) (Gf:=fun _ i2 b2=>[(4,uZ l c all),(5,uZ l1 c1 open1),(6,br (i:Int)),(8,br r),(11,Z (al b1 0)),(15,jo (cd) t.Nodes),(16,mY t.Nodes),(17,br (i:Int)),(64,Z (nS 1 l1 c1 (IntKind.i64.wrap ((open1.length:Int)-r)).toNat y.length)),(65,mY y),(66,br (i2:Int))]) (fun i2 b2 h=>?_) (fun e4 tl1 ih1 i2 b2 h=>?_) y 0 (⟨(i:Int),(1:Int)⟩:kZ) ⟨I,h⟩) (bO I)
    ·obtain⟨hx1,h⟩:=h
     refine fH hx1 I<|aC<|aQ I<|Q (bn AG I I cg (.tail _ (.tail _ (.head _))) (M I))<|Q (bI (r:=ie) (ys:=[b2]) (xs:=[.tmp 91]) ER AG I I I I I ⟨(M I),J⟩)<|cV h fun all1 q_all1 h=>gM AG I I I I ER I I (M I) (M I) q_all1 fun l3 c3=>bP I<|aO ?_;refine bC I<|bC I<|Q (fa jL (.tail _ (.head _)) (M I))<|bC I<|Q (qF (M I) (M I))<|cV h fun y1 q_y1 h=>Q (vi jL er I (.tail _ (.head _)) (M I) (M I) q_y1)<|bC I<|Q (bI (r:=aU) (ys:=[(i:Int)]) (xs:=[.tmp 100]) jL er I I I I I ⟨(M I),J⟩)<|cY<|Ll q_y1<|cV h fun open2 q_open2 h=>gM er I I I I jL I I (M I) (M I) q_open2 fun l4 c4=>lI I<|bu<|eP D hN I<|fF<|aZ<|dW ?_;exact bl (aP (ih (i+1) all1 l3 c3 open2 l4 c4 ⟨eg D,h⟩) (bO I))
    ·obtain⟨hx1,h⟩:=h
     refine fG hx1 I<|aE<|am<|bA<|Q (AR jL er I (.tail _ (.head _)) q_y (M I) (M I) (d6 hx1))<|Q (cb (r:=aU) (i:=((IntKind.i64.wrap ((open1.length:Int)-r))+(i2:Int))) (foff:=0) er I I cg I (.tail _ (.head _)) (Bj q_y (d6 hx1)).1 (M I))<|bP I<|cV h fun e5 q_e5 h=>?_
     refine fY 19 [tc (Z (al b1 0)),tc (br b2.first),tc (uZ l c all),tc (br e4),tc (Z (bh l (e4.toNat*2+0))),tc (Z (bh l (e4.toNat*2+0))),tc (br e5.first),tc (br (min b2.first e5.first)),tc (Z (al b1 1)),tc (br b2.depth),tc (uZ l c all),tc (br e4),tc (Z (bh l (e4.toNat*2+0))),tc (Z (bh l (e4.toNat*2+1))),tc (br e5.depth),tc (br (IntKind.i64.wrap (e5.depth+(1:Int)))),tc (br (max b2.depth (IntKind.i64.wrap (e5.depth+(1:Int))))),tc (Z (al b1 0)),tc (tw)] [false,false,false,false,false,false,false,false,false,false,false,false,false,false,false,false,false,false,true] [fun _=>[dv ie 238 l c all,dv aU 3 l1 c1 open1,bx ie 238 b1 b2],fun sg=>[bx ie 238 b1 ({b2 with first:=(min b2.first e5.first)}:kZ),dv ie 238 l c all,dv aU 3 l1 c1 open1]] I mixed I I I I I
      ⟨⟨[⟨11,fun _=>Z (al b1 0),none⟩],_,0,0,I,⟨(fun _=>I),J⟩,I,I,I,I,I,fun _ sg _ _=>aK I (qX 0 KU I I I)⟩,
      ⟨⟨[⟨70,fun _=>Z (al b1 0),some 0⟩],_,0,0,I,⟨(fun _=>I),J⟩,I,I,I,I,I,dX (fun sg=>aK I (bn er I I Hs (.tail _ (.tail _ (.head _))) (M I)))⟩,
      ⟨⟨[⟨4,fun _=>Z (Y l c all.length),none⟩],_,0,0,I,⟨(fun _=>I),J⟩,I,I,I,I,I,fun _ sg _ _=>aK I (jM I)⟩,
      ⟨⟨[⟨13,fun _=>K aU e4,none⟩],_,0,0,I,⟨(fun _=>I),J⟩,I,I,I,I,I,fun _ sg _ _=>aK I (jM I)⟩,
      ⟨⟨[⟨72,fun _=>Z (Y l c all.length),some 2⟩,⟨73,fun _=>K aU e4,some 3⟩],_,0,0,I,⟨(fun _=>I),(fun _=>I),J⟩,I,I,I,I,I,dX (fun sg=>aK I (bo ER AG (.head _) (M I) (M I) q_e5))⟩,
      ⟨⟨[⟨74,fun _=>Z (bh l (e4.toNat*2+0)),some 4⟩],_,0,0,I,⟨(fun _=>I),J⟩,I,I,I,I,I,dX (fun sg=>aK I (aW (o:=e4.toNat*2+0) (n:=e4.toNat*2+0) KU I (.head _) q_e5 (M I) I))⟩,
      ⟨⟨[⟨75,fun _=>Z (bh l (e4.toNat*2+0)),some 5⟩],_,0,0,I,⟨(fun _=>I),J⟩,I,I,I,I,I,dX (fun sg=>aK I (cb (r:=ie) (i:=e4) (foff:=0) er I I Hs I (.head _) q_e5 (M I)))⟩,
      ⟨⟨[⟨71,fun _=>K aU b2.first,some 1⟩,⟨76,fun _=>K aU e5.first,some 6⟩],_,0,0,I,⟨(fun _=>I),(fun _=>I),J⟩,I,I,I,I,I,fun _ sg _ _=>aK I (lz (M I) (M I))⟩,
      ⟨⟨[⟨11,fun _=>Z (al b1 0),none⟩],_,0,0,I,⟨(fun _=>I),J⟩,I,I,I,I,I,fun _ sg _ _=>aK I (qX 1 C7 I I I)⟩,
      ⟨⟨[⟨78,fun _=>Z (al b1 1),some 8⟩],_,0,0,I,⟨(fun _=>I),J⟩,I,I,I,I,I,dX (fun sg=>aK I (bn er I I xa (.tail _ (.tail _ (.head _))) (M I)))⟩,
      ⟨⟨[⟨4,fun _=>Z (Y l c all.length),none⟩],_,0,1,I,⟨(fun _=>I),J⟩,I,I,I,I,I,fun _ sg _ _=>aK I (jM I)⟩,
      ⟨⟨[⟨13,fun _=>K aU e4,none⟩],_,0,1,I,⟨(fun _=>I),J⟩,I,I,I,I,I,fun _ sg _ _=>aK I (jM I)⟩,
      ⟨⟨[⟨80,fun _=>Z (Y l c all.length),some 10⟩,⟨81,fun _=>K aU e4,some 11⟩],_,0,1,I,⟨(fun _=>I),(fun _=>I),J⟩,I,I,I,I,I,rq (fun sg=>aK I (bo ER AG (.head _) (M I) (M I) q_e5)) (dX (fun sg=>aK I (bo ER AG (.tail _ (.head _)) (M I) (M I) q_e5)))⟩,
      ⟨⟨[⟨82,fun _=>Z (bh l (e4.toNat*2+0)),some 12⟩],_,0,1,I,⟨(fun _=>I),J⟩,I,I,I,I,I,rq (fun sg=>aK I (aW (o:=e4.toNat*2+0) (n:=e4.toNat*2+1) C7 I (.head _) q_e5 (M I) I)) (dX (fun sg=>aK I (aW (o:=e4.toNat*2+0) (n:=e4.toNat*2+1) C7 I (.tail _ (.head _)) q_e5 (M I) I)))⟩,
      ⟨⟨[⟨83,fun _=>Z (bh l (e4.toNat*2+1)),some 13⟩],_,0,1,I,⟨(fun _=>I),J⟩,I,I,I,I,I,rq (fun sg=>aK I (cb (r:=ie) (i:=e4) (foff:=1) er I I xa I (.head _) q_e5 (M I))) (dX (fun sg=>aK I (cb (r:=ie) (i:=e4) (foff:=1) er I I xa I (.tail _ (.head _)) q_e5 (M I))))⟩,
      ⟨⟨[⟨84,fun _=>K aU e5.depth,some 14⟩],_,0,1,I,⟨(fun _=>I),J⟩,I,I,I,I,I,fun _ sg _ _=>aK I (vO (M I) hI)⟩,
      ⟨⟨[⟨79,fun _=>K aU b2.depth,some 9⟩,⟨85,fun _=>K aU (IntKind.i64.wrap (e5.depth+(1:Int))),some 15⟩],_,0,1,I,⟨(fun _=>I),(fun _=>I),J⟩,I,I,I,I,I,fun _ sg _ _=>aK I (Kx (M I) (M I))⟩,
      ⟨⟨[⟨11,fun _=>Z (al b1 0),none⟩],_,0,0,I,⟨(fun _=>I),J⟩,I,I,I,I,I,fun _ sg _ _=>aK I (qX 0 KU I I I)⟩,
      ⟨⟨[⟨87,fun _=>Z (al b1 0),some 17⟩,⟨77,fun _=>K aU (min b2.first e5.first),some 7⟩],_,I,⟨(fun _=>I),(fun _=>I),J⟩,I,I,I,fun sg=>bL I (EffOK.fr2 (em er I (yK Gz) I (M I) (M I)))⟩,
      J⟩⟩⟩⟩⟩⟩⟩⟩⟩⟩⟩⟩⟩⟩⟩⟩⟩⟩⟩ (fun sg=>?_)
     refine(show RG _ _ _ _ [_,_,_] _ from ?_);refine ca 1 C7 I<|cG er Gy I<|bu<|eP hx1 hN1 I<|fF<|fF ?_;exact bl (aP (ih1 (i2+1) (kZ.mk ({b2 with first:=(min b2.first e5.first)}:kZ).first (max b2.depth (IntKind.i64.wrap (e5.depth+(1:Int))))) ⟨eg hx1,h⟩) (bO I))

end Go.Proofs.YtigldkegamffhaaGreatDoor

