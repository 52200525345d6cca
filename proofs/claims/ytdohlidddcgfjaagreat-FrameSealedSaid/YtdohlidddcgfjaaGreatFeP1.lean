/- bO of this claim: P1. -/
import Derived.Test.YtdohlidddcgfjaaGreatFeT
import Derived.Test.YtdohlidddcgfjaaGreatFeP0
set_option linter.all false
namespace Go.Proofs.YtdohlidddcgfjaaGreat
open Go
set_option maxRecDepth 100000

def UY s1 s2 eq{R}(h:cT s1 s2 eq=some R):dV a8 71 [eg (cY) s1,eg (cY) s2,(kU a8 T8 oR (fun(x:aR×aR)=>eq x.1 x.2))] (gA R):=by
 refine fb Tryz.func71 J<|be<|bL<|bt<|bp<|aQ J<|cM Ac J<|aQ J<|cM Ac J<|Q (jU (D J) (D J))<|di h J (fun h=>?_) (fun h=>?_)
 ·exact be<|bL<|co<|aF<|so h▸aW J J
 ·refine jv<|bp<|aQ J<|cM Ac J<|Q (ca hI)<|bt<|aC<|bD (k:=15) J fun hN=>b7 ?_;refine aZ (iu (bx:=fun ls i=>(s1.drop i=ls)/\cO s2 eq ls i=some R) (Of:=fun _ i=>[]) (Gf:=fun _ i=>[(1,eg (cY) s2),(2,(kU a8 T8 oR (fun(x:aR×aR)=>eq x.1 x.2))),(15,eg (cY) s1),(16,oA s1),(17,bw (i:Int))]) (fun i h=>?_) (fun e tl ih i h=>?_) s1 0 ⟨J,h⟩) (bq J)
  ·obtain⟨X,h⟩:=h
   exact fY X J<|aG<|be<|bL<|co<|so h▸aW J J
  ·obtain⟨X,h⟩:=h
   refine fX X J<|aS<|aC<|ay J<|gq Ac lL J (fa X)<|bz lL sM J fun b=>gB J<|bu lL ax J<|bh 8 J<|bt<|aS ?_;refine av<|aQ J<|aQ J<|bK h fun e1 q_e1 h=>gq Ac lL J q_e1<|bz lL sM J fun b1=>bu lL ax J<|bh 9 J<|bt<|ay J<|fP lL J<|fP lL J<|bK h fun r q_r h=>Q (kX (args:=T8) (res:=y0) (f:=(fun(x:aR×aR)=>eq x.1 x.2)) (x:=((e,e1):aR×aR)) (D J) q_r ⟨(D J),(D J),d⟩)<|Q (gg (D J))<|di h J (fun h=>?_) (fun h=>?_)
   ·exact be<|bL<|co<|fJ<|aF<|fJ<|so h▸aW J J
   ·refine bG<|eu X hN J ?_;exact bm (aZ (ih (i+1) ⟨ej X,h⟩) (bq J))

def U2 p y{R}(h:nz p y=some R):dV a8 65 [tD bl p,tD bl y] (gA R):=by
 refine fb Tryz.func65 J<|be<|fv J<|fv J<|bL<|bt<|be<|bI ln em bW J<|bI ln em bW J<|Q (dW (D J) (D J))<|aQ J<|ai J (cq rh uX J J)<|ai J (ck bW J J)<|ai J (cq rh uX J J)<|ai J (ck bW J J)<|ai J (fun V=>dW (bJ J V) (bJ J V))<|cU J<|aQ J<|ai J (cq sr yw J J) ?_;refine ai J (ck bW J J)<|ai J (cq sr yw J J)<|ai J (ck bW J J)<|ai J (fun V=>dW (bJ J V) (bJ J V))<|cU J<|aQ J<|ai J (cq uZ nH J J)<|ai J (ck bW J J)<|ai J (cq uZ nH J J)<|ai J (ck bW J J)<|ai J (fun V=>dW (bJ J V) (bJ J V))<|cU J<|aQ J<|ai J (cq Dc uW J J)<|ai J (ck yM J J)<|ai J (cq Dc uW J J)<|ai J (ck yM J J)<|ai J (fun V=>Gq Lv (bJ J V) (bJ J V))<|cU J<|aQ J<|ai J (cq u0 po J J)<|ai J (ck bW J J)<|ai J (cq u0 po J J)<|ai J (ck bW J J) ?_;refine ai J (fun V=>dW (bJ J V) (bJ J V))<|cU J<|aX J<|ay J<|aQ J<|bK h fun t q_t h=>ai J (cq qw jJ J J)<|ai J (ck c0 J J)<|ai J (cq qw jJ J J)<|ai J (ck c0 J J) ?_
 obtain⟨r,h1t,h0t⟩:=og q_t
 have q_rg:=fun W=>(h1t W).1
 refine ai J (fun V=>dx VS (KK _ _ (q_rg V)) ⟨(bJ J V),(bJ J V),d⟩)<|Q (cR (D J) (fun W=>(bJ J W)) (fun W=>(h1t W).2) h0t)<|aQ J<|bK h fun t1 q_t1 h=>ai J (cq pS iW J J)<|ai J (ck c0 J J)<|ai J (cq pS iW J J)<|ai J (ck c0 J J) ?_
 obtain⟨r1,h1t1,h0t1⟩:=og q_t1
 have q_r1g:=fun W=>(h1t1 W).1
 refine ai J (fun V=>dx VS (KK _ _ (q_r1g V)) ⟨(bJ J V),(bJ J V),d⟩)<|Q (cR (D J) (fun W=>(bJ J W)) (fun W=>(h1t1 W).2) h0t1)<|aQ J<|bK h fun t2 q_t2 h=>ai J (cq td nI J J)<|ai J (ck HE J J)<|ai J (cq td nI J J)<|ai J (ck HE J J) ?_
 obtain⟨r2,h1t2,h0t2⟩:=og q_t2
 have q_r2g:=fun W=>(h1t2 W).1
 refine ai J (fun V=>dx ZS (U1 _ _ (q_r2g V)) ⟨(bJ J V),(bJ J V),d⟩)<|Q (cR (D J) (fun W=>(bJ J W)) (fun W=>(h1t2 W).2) h0t2)<|aX J<|be<|Q (b9 (show aI _ _ _ ((kU a8 Rc oR (fun(x:fI×fI)=>oH x.1 x.2)))from(PO ZR fun x y h=>U0 _ _ h)))<|bt<|ay J<|aQ J<|bK h fun t3 q_t3 h=>ai J (cq uY oY J J)<|ai J (ck lL J J)<|ai J (cq uY oY J J)<|ai J (ck lL J J) ?_
 obtain⟨r3,h1t3,h0t3⟩:=og q_t3
 have q_r3g:=fun W=>(h1t3 W).1
 refine ai J (fun V=>dx VR (KJ _ _ (q_r3g V)) ⟨(bJ J V),(bJ J V),d⟩)<|Q (cR (D J) (fun W=>(bJ J W)) (fun W=>(h1t3 W).2) h0t3)<|aQ J<|bK h fun t4 q_t4 h=>ai J (cq ox gL J J)<|ai J (ck xq J J)<|ai J (cq ox gL J J)<|ai J (ck xq J J)<|ai J (dd J) ?_
 obtain⟨r4,h1t4,h0t4⟩:=og q_t4
 have q_r4g:=fun W=>(h1t4 W).1
 refine ai J (fun V=>dx ZQ (UZ _ _ _ (q_r4g V)) ⟨(bJ J V),(bJ J V),(bJ J V),d⟩)<|Q (cR (D J) (fun W=>(bJ J W)) (fun W=>(h1t4 W).2) h0t4)<|aQ J<|bK h fun t5 q_t5 h=>ai J (cq yx qu J J)<|ai J (ck JN J J)<|ai J (cq yx qu J J)<|ai J (ck JN J J) ?_
 obtain⟨r5,h1t5,h0t5⟩:=og q_t5
 have q_r5g:=fun W=>(h1t5 W).1
 exact ai J (fun V=>dx ZP (UY _ _ _ (q_r5g V)) ⟨(bJ J V),(bJ J V),(PO VR fun x y h=>KJ _ _ h),d⟩)<|Q (cR (D J) (fun W=>(bJ J W)) (fun W=>(h1t5 W).2) h0t5)<|bk J<|so h▸aW J J

def UX s1 s2 eq{R}(h:cS s1 s2 eq=some R):dV a8 72 [eg (cG) s1,eg (cG) s2,(kU a8 Rf oR (fun(x:dC×dC)=>eq x.1 x.2))] (gA R):=by
 refine fb Tryz.func72 J<|be<|bL<|bt<|bp<|aQ J<|cM yP J<|aQ J<|cM yP J<|Q (jU (D J) (D J))<|di h J (fun h=>?_) (fun h=>?_)
 ·exact be<|bL<|co<|aF<|so h▸aW J J
 ·refine jv<|bp<|aQ J<|cM yP J<|Q (ca hI)<|bt<|aC<|bD (k:=15) J fun hN=>b7 ?_;refine aZ (iu (bx:=fun ls i=>(s1.drop i=ls)/\cN s2 eq ls i=some R) (Of:=fun _ i=>[]) (Gf:=fun _ i=>[(1,eg (cG) s2),(2,(kU a8 Rf oR (fun(x:dC×dC)=>eq x.1 x.2))),(15,eg (cG) s1),(16,oA s1),(17,bw (i:Int))]) (fun i h=>?_) (fun e tl ih i h=>?_) s1 0 ⟨J,h⟩) (bq J)
  ·obtain⟨X,h⟩:=h
   exact fY X J<|aG<|be<|bL<|co<|so h▸aW J J
  ·obtain⟨X,h⟩:=h
   refine fX X J<|aS<|aC<|ay J<|gq yP qh J (fa X)<|bz qh pz J fun b=>gB J<|bu qh ax J<|bh 8 J<|bt<|aS ?_;refine av<|aQ J<|aQ J<|bK h fun e1 q_e1 h=>gq yP qh J q_e1<|bz qh pz J fun b1=>bu qh ax J<|bh 9 J<|bt<|ay J<|fP qh J<|fP qh J<|bK h fun r q_r h=>Q (kX (args:=Rf) (res:=y0) (f:=(fun(x:dC×dC)=>eq x.1 x.2)) (x:=((e,e1):dC×dC)) (D J) q_r ⟨(D J),(D J),d⟩)<|Q (gg (D J))<|di h J (fun h=>?_) (fun h=>?_)
   ·exact be<|bL<|co<|fJ<|aF<|fJ<|so h▸aW J J
   ·refine bG<|eu X hN J ?_;exact bm (aZ (ih (i+1) ⟨ej X,h⟩) (bq J))

def UV s1 s2 eq{R}(h:cK s1 s2 eq=some R):dV a8 74 [eg (bl) s1,eg (bl) s2,(kU a8 OH oR (fun(x:aa×aa)=>eq x.1 x.2))] (gA R):=by
 refine fb Tryz.func74 J<|be<|bL<|bt<|bp<|aQ J<|cM vy J<|aQ J<|cM vy J<|Q (jU (D J) (D J))<|di h J (fun h=>?_) (fun h=>?_)
 ·exact be<|bL<|co<|aF<|so h▸aW J J
 ·refine jv<|bp<|aQ J<|cM vy J<|Q (ca hI)<|bt<|aC<|bD (k:=15) J fun hN=>b7 ?_;refine aZ (iu (bx:=fun ls i=>(s1.drop i=ls)/\cF s2 eq ls i=some R) (Of:=fun _ i=>[]) (Gf:=fun _ i=>[(1,eg (bl) s2),(2,(kU a8 OH oR (fun(x:aa×aa)=>eq x.1 x.2))),(15,eg (bl) s1),(16,oA s1),(17,bw (i:Int))]) (fun i h=>?_) (fun e tl ih i h=>?_) s1 0 ⟨J,h⟩) (bq J)
  ·obtain⟨X,h⟩:=h
   exact fY X J<|aG<|be<|bL<|co<|so h▸aW J J
  ·obtain⟨X,h⟩:=h
   refine fX X J<|aS<|aC<|ay J<|gq vy ge J (fa X)<|bz ge kR J fun b=>gB J<|bu ge ax J<|bh 8 J<|bt<|aS ?_;refine av<|aQ J<|aQ J<|bK h fun e1 q_e1 h=>gq vy ge J q_e1<|bz ge kR J fun b1=>bu ge ax J<|bh 9 J<|bt<|ay J<|fP ge J<|fP ge J<|bK h fun r q_r h=>Q (kX (args:=OH) (res:=y0) (f:=(fun(x:aa×aa)=>eq x.1 x.2)) (x:=((e,e1):aa×aa)) (D J) q_r ⟨(D J),(D J),d⟩)<|Q (gg (D J))<|di h J (fun h=>?_) (fun h=>?_)
   ·exact be<|bL<|co<|fJ<|aF<|fJ<|so h▸aW J J
   ·refine bG<|eu X hN J ?_;exact bm (aZ (ih (i+1) ⟨ej X,h⟩) (bq J))

def UW node p y{R}(h:qX node p y=some R):dV a8 73 [tD cG p,tD cG y,c8 (rT ((kU a8 OH oR (fun(x:aa×aa)=>node x.1 x.2)))) ()] (gA R):=by
 refine fb Tryz.func73 J<|be<|fv J<|fv J<|bL<|bt<|be<|bI Df uj bW J<|bI Df uj bW J<|Q (dW (D J) (D J))<|aQ J<|ai J (cq De ui J J)<|ai J (ck bW J J)<|ai J (cq De ui J J)<|ai J (ck bW J J)<|ai J (fun V=>dW (bJ J V) (bJ J V))<|cU J<|aQ J<|bK h fun t q_t h=>?_;refine ai J (cq Dd uh J J)<|ai J (ck c0 J J)<|ai J (cq Dd uh J J)<|ai J (ck c0 J J) ?_
 obtain⟨r,h1t,h0t⟩:=og q_t
 have q_rg:=fun W=>(h1t W).1
 refine ai J (fun V=>dx VS (KK _ _ (q_rg V)) ⟨(bJ J V),(bJ J V),d⟩)<|Q (cR (D J) (fun W=>(bJ J W)) (fun W=>(h1t W).2) h0t)<|aQ J<|bK h fun t1 q_t1 h=>ai J (cq AC uk J J)<|ai J (ck F2 J J)<|ai J (cq AC uk J J)<|ai J (ck F2 J J)<|ai J (fun V=>Ir OY (D J)) ?_
 obtain⟨r1,h1t1,h0t1⟩:=og q_t1
 have q_r1g:=fun W=>(h1t1 W).1
 exact ai J (fun V=>dx ZM (UV _ _ _ (q_r1g V)) ⟨(bJ J V),(bJ J V),(bJ J V),d⟩)<|Q (cR (D J) (fun W=>(bJ J W)) (fun W=>(h1t1 W).2) h0t1)<|bk J<|so h▸aW J J

def Va a1 b{R}(h:wZ a1 b=some R):dV a8 32 [tD m3 a1,tD m3 b] (gA R):=by
 refine fb Tryz.func32 J<|be<|fv J<|fv J<|bL<|bt<|be<|bz (r:=rV) (x:= .nilFunc) OY (fun _=>⟨J,J⟩) J fun b1=>eE (dc (r' :=rT (OG)) (x' :=()) (q:=rT (OG)) (y:=()) OY J (Al J) J (D J) (hTT RJ (show aI _ _ _ (OG)from(PO ZT fun x y h=>U2 _ _ h)))) fun _=>?_;refine(show RG _ _ _ _ (Z (rT (OG)) 120 b1 ()::_) _ from ?_);exact bh 5 J<|bt<|be<|bI yB qt JO J<|bI yB qt JO J<|Q ((show cm _ _ _ _ ((kU a8 Rf oR (fun(x:dC×dC)=>(qX nz) x.1 x.2)))from wi (cts:=[c8 (rT (OG)) ()]) (caps:=[.tmp 5]) ZN ⟨(D J),d⟩ (fun x y h=>UW _ _ _ h)))<|iI h ZO (UX _ _ _) (ez J) fun r h=>bk J<|so h▸aW J J

def GI a1 b{R}(h:oX a1 b=some R):dV a8 14 [tD fQ a1,tD fQ b] (gA R):=by
 refine fb Tryz.func14 J<|be<|fv J<|fv J<|bL<|bt<|be<|bI u3 qZ bW J<|bI Dh zz bW J<|bI Dg zy bW J<|bI AE wx bW J<|bI wB ww bW J<|bI yy wv bW J<|Q (rJ (r:=bN) (ys:=[a1.Kind,a1.From,a1.To,a1.Epoch,a1.Frag,a1.Sites]) (xs:=[.tmp 7,.tmp 9,.tmp 11,.tmp 13,.tmp 15,.tmp 17]) Tryz.underlying62 bW J Wh J J ⟨(D J),(D J),(D J),(D J),(D J),(D J),d⟩)<|tX u3 qZ J ?_;refine fP bW J<|bI Dh zz bW J<|bI Dg zy bW J<|bI AE wx bW J<|bI wB ww bW J<|bI yy wv bW J<|Q (rJ (r:=bN) (ys:=[b.Kind,b.From,b.To,b.Epoch,b.Frag,b.Sites]) (xs:=[.tmp 20,.tmp 22,.tmp 24,.tmp 26,.tmp 28,.tmp 30]) Tryz.underlying62 bW J Wh J J ⟨(D J),(D J),(D J),(D J),(D J),(D J),d⟩)<|Q (Gp ZA (D J) (D J))<|aX J<|ay J<|aQ J<|ai J (cq wz wt J J)<|ai J (ck xZ J J)<|ai J (cq wz wt J J)<|ai J (ck xZ J J) ?_;refine ai J (fun V=>dW (bJ J V) (bJ J V))<|cU J<|aQ J<|bK h fun t q_t h=>ai J (cq wA wu J J)<|ai J (ck rn J J)<|ai J (cq wA wu J J)<|ai J (ck rn J J) ?_
 obtain⟨r,h1t,h0t⟩:=og q_t
 have q_rg:=fun W=>(h1t W).1
 refine ai J (fun V=>dx Z9 (Vb _ _ (q_rg V)) ⟨(bJ J V),(bJ J V),d⟩)<|Q (cR (D J) (fun W=>(bJ J W)) (fun W=>(h1t W).2) h0t)<|aQ J<|bK h fun t1 q_t1 h=>ai J (cq AD zx J J)<|ai J (ck Co J J)<|ai J (cq AD zx J J)<|ai J (ck Co J J) ?_
 obtain⟨r1,h1t1,h0t1⟩:=og q_t1
 have q_r1g:=fun W=>(h1t1 W).1
 exact ai J (fun V=>dx Z8 (Va _ _ (q_r1g V)) ⟨(bJ J V),(bJ J V),d⟩)<|Q (cR (D J) (fun W=>(bJ J W)) (fun W=>(h1t1 W).2) h0t1)<|bk J<|so h▸aW J J

def U5 m{R}(h:s6 m=some R):dV a8 57 [tD fQ m] (gA R):=by
 refine fb Tryz.func57 J<|be<|fv J<|bL<|bt<|be<|fP iZ J<|bz iZ py J fun b=>bu iZ ax J<|bt<|be<|aT 0 u3 J<|dX bW J CF J (D J) hI<|aT 1 Dh J<|dX bW J CE J (D J) hI<|aT 2 Dg J<|dX bW J HR J (D J) hI<|aT 3 AE J<|dX bW J CD J (D J) hI ?_;refine bt<|bp<|bI u3 qZ bW J<|bt<|aC<|be<|bP J<|aX J<|iY h J (fun h=>?_) (fun h=>?_)
 ·exact av<|Q (ec Co WP BE J)<|aT 5 yy J<|dX bW J HQ J (D J) hI<|aT 6 AD J<|bu Co HP J<|aU<|aE<|aG<|be<|Q (aD (x:=(ci.mk (0:Int) (0:Int) (0:Int) (0:Int) m.Frag (0:Int) tW m.Packet m.Err)) iZ J J bj (.head _) (D J))<|Q (ec iZ IL py J)<|iI h SX (GI _ _) (ez J) fun r h=>bk J<|aY<|so h▸aW J J
 ·refine iy (bx:=fun x=>pP m x=some R) (Of:=fun x=>[Z fQ 34 b (ci.mk (0:Int) (0:Int) (0:Int) (0:Int) m.Frag m.Sites m.Plan m.Packet m.Err)]) (Gf:=fun x=>[(3,K (M b 0)),(10,bw m.Kind),(16,gA x)]) (fun x h=>?_) (fun tV=>?_)
  ·skip
   refine iY h J (fun h=>?_) (fun h=>?_)
   ·exact av<|Q (ec rn UR o5 J)<|aT 4 wB J<|dX bW J CC J (D J) hI<|aT 7 wA J<|bu rn CB J<|aU<|aE<|aG<|be<|Q (aD (x:=(ci.mk (0:Int) (0:Int) (0:Int) (0:Int) (0:Int) m.Sites m.Plan qe m.Err)) iZ J J bj (.head _) (D J))<|Q (ec iZ IL py J)<|iI h SX (GI _ _) (ez J) fun r1 h=>bk J<|aY<|so h▸aW J J
   ·refine be<|bP J<|aX J<|iY h J (fun h=>?_) (fun h=>?_)
    ·exact av<|aT 14 wz J<|dX xZ J CA J (D J) hI<|aU<|aE<|aG<|be<|Q (aD (x:=(ci.mk (0:Int) (0:Int) (0:Int) (0:Int) m.Frag m.Sites m.Plan m.Packet (0:Int))) iZ J J bj (.head _) (D J))<|Q (ec iZ IL py J)<|iI h SX (GI _ _) (ez J) fun r2 h=>bk J<|aY<|so h▸aW J J
    ·exact bG<|aE<|aG<|be<|Q (aD (x:=(ci.mk (0:Int) (0:Int) (0:Int) (0:Int) m.Frag m.Sites m.Plan m.Packet m.Err)) iZ J J bj (.head _) (D J))<|Q (ec iZ IL py J)<|iI h SX (GI _ _) (ez J) fun r3 h=>bk J<|aY<|so h▸aW J J
  ·skip
   refine be<|bP J<|aX J<|iY h J (fun h=>?_) (fun h=>?_)
   ·refine bG ?_;exact bU (tV (m.Kind==(3:Int)) h) (bq J)
   ·refine av<|bP J<|gB J<|aU ?_;exact bU (tV (m.Kind==(4:Int)) h) (bq J)

def UU c{R}(h:pR c=some R):dV a8 81 [bw c] (gA R):=by
 exact fb Tryz.func81 J<|be<|bL<|bt<|ay J<|Q (iC (D J) hI)<|aQ J<|b8 J (dd J)<|b8 J (fun V=>ie (bJ J V) hI)<|kG J<|bk J<|so h▸aW J J

def SJ h3 f{R}(h:lh h3 f=some R):dV a8 129 [oo h3,(kU a8 Hr oR (fun(x:Int)=>f x))] (bw R):=by
 refine fb Tryz.func129 J<|be<|cJ<|bt<|bp<|aQ J<|cM fc J<|Q (ca hI)<|bt<|aC<|bD (k:=6) J fun hN=>b7 ?_;refine aZ (iu (bx:=fun ls i=>(h3.drop i=ls)/\fx f ls i=some R) (Of:=fun _ i=>[]) (Gf:=fun _ i=>[(0,oo h3),(1,(kU a8 Hr oR (fun(x:Int)=>f x))),(7,oA h3),(8,bw (i:Int))]) (fun i h=>?_) (fun e tl ih i h=>?_) h3 0 ⟨J,h⟩) (bq J)
 ·obtain⟨X,h⟩:=h
  exact fY X J<|aG<|be<|gm<|so h▸aW J J
 ·obtain⟨X,h⟩:=h
  refine fX X J<|aS<|aC<|ay J<|aX J<|ay J<|aQ J<|aQ J<|EK fc bW J (fa X) ?_;refine fP bW J<|bK h fun r q_r h=>Q (kX (args:=OC) (res:=y0) (f:=(fun(x:Int)=>f x)) (x:=((e):Int)) (D J) q_r ⟨(D J),d⟩)<|di h J (fun h=>?_) (fun h=>?_)
  ·exact ay J<|bk J<|fJ<|aF<|fJ<|so h▸aW J J
  ·refine bG<|eu X hN J ?_;exact bm (aZ (ih (i+1) ⟨ej X,h⟩) (bq J))

def KI h3 f{R}(h:eo h3 f=some R):dV a8 83 [oo h3,(kU a8 Hr oR (fun(x:Int)=>f x))] (gA R):=by
 exact fb Tryz.func83 J<|be<|bL<|bt<|ay J<|aQ J<|iI h YF (SJ _ _) (ez J) fun r h=>Q (ie (D J) hI)<|bk J<|so h▸aW J J

def Sw k{R}(h:nX k=some R):dV a8 202 [bw k] (gA R):=by
 exact fb Tryz.func202 J<|be<|bL<|bt<|ay J<|Q (iC (D J) hI)<|aQ J<|b8 J (dd J)<|b8 J (fun V=>jW (bJ J V) hI)<|kG J<|bk J<|so h▸aW J J

def VB(b:Nat)(ix:OI) l{R}(h:jq l=some R):bf a8 163 [K (M b 0)] (ei b l ix) (fun _:OI=>gA R.1) (fun j=>ei b R.2 j):=by
 refine bf.of Tryz.func163 J J J fun w0 S0=>?_;refine(show CG _ _ _ [Z (rH br [(1,au (ix.h 0).1 (ix.h 0).2 l.kinds.length),(2,au (ix.h 1).1 (ix.h 1).2 l.open_.length)]) 168 b l,tip oz 69 (ix.h 0).1 (ix.h 0).2 l.kinds,de bN 3 (ix.h 1).1 (ix.h 1).2 l.open_] _ from ?_);refine be<|bL<|bt<|ay J<|aQ J<|Q (aA (D J))<|aT 3 gH J<|aT 7 qw J<|Q (aD (r:=rH br [(1,au (ix.h 0).1 (ix.h 0).2 l.kinds.length),(2,au (ix.h 1).1 (ix.h 1).2 l.open_.length)]) (x:=l) c0 J J (ee (d5 fh jJ)) (.head _) (D J))<|Q (aA (D J))<|aT 17 fH J<|eE (dc c0 J (nq (hs' :=[(1,au (ix.h 0).1 (ix.h 0).2 l.kinds.length),(2,au (ix.h 1).1 (ix.h 1).2 l.open_.length)]) rG ⟨.inr ⟨J,J⟩,.inr ⟨J,J⟩,d⟩ J) J (D J) (D J)) fun i=>?_;refine(show RG _ _ _ _ [_,_,_] _ from ?_);refine bt<|ay J<|Q (aA (D J))<|aT 3 gH J<|aT 7 qw J<|Q (aD (r:=rH br [(1,au (ix.h 0).1 (ix.h 0).2 l.kinds.length),(2,au (ix.h 1).1 (ix.h 1).2 l.open_.length)]) (x:=({l with result:=l.n.Kinds}:al)) c0 J J (ee (d5 fh jJ)) (.head _) (D J))<|iI h VQ (KI _ _) ⟨(D J),(PO X5 fun x y h=>Sw _ h),d⟩ fun r h=>Q (gg (D J))<|aX J<|ay J<|aQ J<|ai J (dd J)<|ai J (fun V=>aA (bJ J V))<|ai J (fun V=>bQ (n:=3) gH J (bJ J V) J)<|ai J (fun V=>bQ (n:=6) uZ J (bJ J V) J)<|ai J (fun V=>aD (r:=rH br [(1,au (ix.h 0).1 (ix.h 0).2 l.kinds.length),(2,au (ix.h 1).1 (ix.h 1).2 l.open_.length)]) (x:=({l with result:=l.n.Kinds}:al)) bW J J (ee (d5 fh nH)) (.head _) (bJ J V)) ?_;refine ai J (fun V=>ie (bJ J V) hI)<|cU J<|aQ J<|ai J (dd J)<|ai J (fun V=>aA (bJ J V))<|ai J (fun V=>bQ (n:=3) gH J (bJ J V) J)<|ai J (fun V=>bQ (n:=6) uZ J (bJ J V) J)<|ai J (fun V=>aD (r:=rH br [(1,au (ix.h 0).1 (ix.h 0).2 l.kinds.length),(2,au (ix.h 1).1 (ix.h 1).2 l.open_.length)]) (x:=({l with result:=l.n.Kinds}:al)) bW J J (ee (d5 fh nH)) (.head _) (bJ J V))<|ai J (fun V=>iC (bJ J V) hI)<|cU J<|aQ J<|ai J (dd J)<|ai J (fun V=>aA (bJ J V))<|ai J (fun V=>bQ (n:=3) gH J (bJ J V) J)<|ai J (fun V=>bQ (n:=7) qw J (bJ J V) J)<|ai J (fun V=>aD (r:=rH br [(1,au (ix.h 0).1 (ix.h 0).2 l.kinds.length),(2,au (ix.h 1).1 (ix.h 1).2 l.open_.length)]) (x:=({l with result:=l.n.Kinds}:al)) c0 J J (ee (d5 fh jJ)) (.head _) (bJ J V))<|ai J (m2 fc J)<|ai J (fun V=>jW (bJ J V) hI)<|cU J<|aQ J<|ai J (dd J)<|ai J (fun V=>aA (bJ J V))<|ai J (fun V=>bQ (n:=3) gH J (bJ J V) J)<|ai J (fun V=>bQ (n:=7) qw J (bJ J V) J) ?_;exact ai J (fun V=>aD (r:=rH br [(1,au (ix.h 0).1 (ix.h 0).2 l.kinds.length),(2,au (ix.h 1).1 (ix.h 1).2 l.open_.length)]) (x:=({l with result:=l.n.Kinds}:al)) c0 J J (ee (d5 fh jJ)) (.head _) (bJ J V))<|ai J (m2 fc J)<|ai J (fun V=>gy (bJ J V) hI)<|cU J<|bk J<|aH<|aH<|aH<|so h▸bA J ix J J (fun _ _ h=>h)

def Sv k{R}(h:m6 k=some R):dV a8 203 [bw k] (gA R):=by
 exact fb Tryz.func203 J<|be<|bL<|bt<|ay J<|Q (iC (D J) hI)<|aQ J<|b8 J (dd J)<|b8 J (fun V=>jW (bJ J V) hI)<|kG J<|bk J<|so h▸aW J J

def VA(b:Nat)(ix:OI) l{R}(h:iB l=some R):bf a8 164 [K (M b 0)] (ei b l ix) (fun _:OI=>gA R.1) (fun j=>ei b R.2 j):=by
 refine bf.of Tryz.func164 J J J fun w0 S0=>?_;refine(show CG _ _ _ [Z (rH br [(1,au (ix.h 0).1 (ix.h 0).2 l.kinds.length),(2,au (ix.h 1).1 (ix.h 1).2 l.open_.length)]) 168 b l,tip oz 69 (ix.h 0).1 (ix.h 0).2 l.kinds,de bN 3 (ix.h 1).1 (ix.h 1).2 l.open_] _ from ?_);refine be<|bL<|bt<|ay J<|aQ J<|Q (aA (D J))<|aT 3 gH J<|aT 7 qw J<|Q (aD (r:=rH br [(1,au (ix.h 0).1 (ix.h 0).2 l.kinds.length),(2,au (ix.h 1).1 (ix.h 1).2 l.open_.length)]) (x:=l) c0 J J (ee (d5 fh jJ)) (.head _) (D J))<|Q (aA (D J))<|aT 17 fH J<|eE (dc c0 J (nq (hs' :=[(1,au (ix.h 0).1 (ix.h 0).2 l.kinds.length),(2,au (ix.h 1).1 (ix.h 1).2 l.open_.length)]) rG ⟨.inr ⟨J,J⟩,.inr ⟨J,J⟩,d⟩ J) J (D J) (D J)) fun i=>?_;refine(show RG _ _ _ _ [_,_,_] _ from ?_);refine bt<|ay J<|Q (aA (D J))<|aT 3 gH J<|aT 7 qw J<|Q (aD (r:=rH br [(1,au (ix.h 0).1 (ix.h 0).2 l.kinds.length),(2,au (ix.h 1).1 (ix.h 1).2 l.open_.length)]) (x:=({l with result:=l.n.Kinds}:al)) c0 J J (ee (d5 fh jJ)) (.head _) (D J))<|iI h VQ (KI _ _) ⟨(D J),(PO X4 fun x y h=>Sv _ h),d⟩ fun r h=>Q (gg (D J))<|aX J<|ay J<|aQ J<|ai J (dd J)<|ai J (fun V=>aA (bJ J V))<|ai J (fun V=>bQ (n:=3) gH J (bJ J V) J)<|ai J (fun V=>bQ (n:=6) uZ J (bJ J V) J)<|ai J (fun V=>aD (r:=rH br [(1,au (ix.h 0).1 (ix.h 0).2 l.kinds.length),(2,au (ix.h 1).1 (ix.h 1).2 l.open_.length)]) (x:=({l with result:=l.n.Kinds}:al)) bW J J (ee (d5 fh nH)) (.head _) (bJ J V)) ?_;refine ai J (fun V=>ie (bJ J V) hI)<|cU J<|aQ J<|ai J (dd J)<|ai J (fun V=>aA (bJ J V))<|ai J (fun V=>bQ (n:=3) gH J (bJ J V) J)<|ai J (fun V=>bQ (n:=6) uZ J (bJ J V) J)<|ai J (fun V=>aD (r:=rH br [(1,au (ix.h 0).1 (ix.h 0).2 l.kinds.length),(2,au (ix.h 1).1 (ix.h 1).2 l.open_.length)]) (x:=({l with result:=l.n.Kinds}:al)) bW J J (ee (d5 fh nH)) (.head _) (bJ J V))<|ai J (fun V=>iC (bJ J V) hI)<|cU J<|aQ J<|ai J (dd J)<|ai J (fun V=>aA (bJ J V))<|ai J (fun V=>bQ (n:=3) gH J (bJ J V) J)<|ai J (fun V=>bQ (n:=7) qw J (bJ J V) J)<|ai J (fun V=>aD (r:=rH br [(1,au (ix.h 0).1 (ix.h 0).2 l.kinds.length),(2,au (ix.h 1).1 (ix.h 1).2 l.open_.length)]) (x:=({l with result:=l.n.Kinds}:al)) c0 J J (ee (d5 fh jJ)) (.head _) (bJ J V))<|ai J (m2 fc J)<|ai J (fun V=>jW (bJ J V) hI)<|cU J<|aQ J<|ai J (dd J)<|ai J (fun V=>aA (bJ J V))<|ai J (fun V=>bQ (n:=3) gH J (bJ J V) J)<|ai J (fun V=>bQ (n:=7) qw J (bJ J V) J) ?_;exact ai J (fun V=>aD (r:=rH br [(1,au (ix.h 0).1 (ix.h 0).2 l.kinds.length),(2,au (ix.h 1).1 (ix.h 1).2 l.open_.length)]) (x:=({l with result:=l.n.Kinds}:al)) c0 J J (ee (d5 fh jJ)) (.head _) (bJ J V))<|ai J (m2 fc J)<|ai J (fun V=>gy (bJ J V) hI)<|cU J<|bk J<|aH<|aH<|aH<|so h▸bA J ix J J (fun _ _ h=>h)

end Go.Proofs.YtdohlidddcgfjaaGreat

