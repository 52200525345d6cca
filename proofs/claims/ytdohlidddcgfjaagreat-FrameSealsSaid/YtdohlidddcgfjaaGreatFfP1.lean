/- bS of this claim: P1. -/
import Derived.Test.YtdohlidddcgfjaaGreatFfT
import Derived.Test.YtdohlidddcgfjaaGreatFfP0
set_option linter.all false
namespace Go.Proofs.YtdohlidddcgfjaaGreat
open Go
set_option maxRecDepth 100000

def YD s1 s2 eq{R}(h:db s1 s2 eq=some R):dR aY 71 [eg (cW) s1,eg (cW) s2,(lK aY XI p9 (fun(x:aO×aO)=>eq x.1 x.2))] (gR R):=by
 refine fc Tryz.func71 J<|bc<|bz<|br<|bm<|aR J<|cr xr J<|aR J<|cr xr J<|s (kJ (D J) (D J))<|c0 h J (fun h=>?_) (fun h=>?_)
 ·exact bc<|bz<|bQ<|au<|so h▸aN J J
 ·refine jf<|bm<|aR J<|cr xr J<|s (bR hI)<|br<|aA<|bt (k:=15) J fun hN=>bN ?_;refine aV (fC (tV:=fun ls i=>(s1.drop i=ls)/\cT s2 eq ls i=some R) (Of:=fun _ i=>[]) (Gf:=fun _ i=>[(1,eg (cW) s2),(2,(lK aY XI p9 (fun(x:aO×aO)=>eq x.1 x.2))),(15,eg (cW) s1),(16,nL s1),(17,bB (i:Int))]) (fun i h=>?_) (fun e tl ih i h=>?_) s1 0 ⟨J,h⟩) (bp J)
  ·obtain⟨V,h⟩:=h
   exact fv V J<|aG<|bc<|bz<|bQ<|so h▸aN J J
  ·obtain⟨V,h⟩:=h
   refine ft V J<|aU<|aA<|aB J<|fV xr lc J (eK V)<|bv lc sM J fun b=>ia J<|bw lc aw J<|be 8 J<|br<|aU ?_;refine ax<|aR J<|aR J<|bL h fun e1 q_e1 h=>fV xr lc J q_e1<|bv lc sM J fun b1=>bw lc aw J<|be 9 J<|br<|aB J<|fL lc J<|fL lc J<|bL h fun r q_r h=>s (lM (args:=XI) (res:=AN) (f:=(fun(x:aO×aO)=>eq x.1 x.2)) (x:=((e,e1):aO×aO)) (D J) q_r ⟨(D J),(D J),aM⟩)<|s (gO (D J))<|c0 h J (fun h=>?_) (fun h=>?_)
   ·exact bc<|bz<|bQ<|eu<|au<|eu<|so h▸aN J J
   ·refine bE<|d6 V hN J ?_;exact bj (aV (ih (i+1) ⟨dZ V,h⟩) (bp J))

def YH p y{R}(h:oA p y=some R):dR aY 65 [tD bl p,tD bl y] (gR R):=by
 refine fc Tryz.func65 J<|bc<|fx J<|fx J<|bz<|br<|bc<|bG mb eQ b9 J<|bG mb eQ b9 J<|s (eh (D J) (D J))<|aR J<|ai J (ci sD ww J J)<|ai J (ce b9 J J)<|ai J (ci sD ww J J)<|ai J (ce b9 J J)<|ai J (fun K=>eh (bM J K) (bM J K))<|de J<|aR J<|ai J (ci t8 Ae J J) ?_;refine ai J (ce b9 J J)<|ai J (ci t8 Ae J J)<|ai J (ce b9 J J)<|ai J (fun K=>eh (bM J K) (bM J K))<|de J<|aR J<|ai J (ci wy oO J J)<|ai J (ce b9 J J)<|ai J (ci wy oO J J)<|ai J (ce b9 J J)<|ai J (fun K=>eh (bM J K) (bM J K))<|de J<|aR J<|ai J (ci Fh wv J J)<|ai J (ce Aw J J)<|ai J (ci Fh wv J J)<|ai J (ce Aw J J)<|ai J (fun K=>IH JE (bM J K) (bM J K))<|de J<|aR J<|ai J (ci wz qA J J)<|ai J (ce b9 J J)<|ai J (ci wz qA J J)<|ai J (ce b9 J J) ?_;refine ai J (fun K=>eh (bM J K) (bM J K))<|de J<|a8 J<|aB J<|aR J<|bL h fun t q_t h=>ai J (ci q5 jA J J)<|ai J (ce dc J J)<|ai J (ci q5 jA J J)<|ai J (ce dc J J) ?_
 obtain⟨r,h1t,h0t⟩:=og q_t
 have q_rg:=fun H=>(h1t H).1
 refine ai J (fun K=>dz ZH (Nf _ _ (q_rg K)) ⟨(bM J K),(bM J K),aM⟩)<|s (dj (D J) (fun H=>(bM J H)) (fun H=>(h1t H).2) h0t)<|aR J<|bL h fun t1 q_t1 h=>ai J (ci qj iU J J)<|ai J (ce dc J J)<|ai J (ci qj iU J J)<|ai J (ce dc J J) ?_
 obtain⟨r1,h1t1,h0t1⟩:=og q_t1
 have q_r1g:=fun H=>(h1t1 H).1
 refine ai J (fun K=>dz ZH (Nf _ _ (q_r1g K)) ⟨(bM J K),(bM J K),aM⟩)<|s (dj (D J) (fun H=>(bM J H)) (fun H=>(h1t1 H).2) h0t1)<|aR J<|bL h fun t2 q_t2 h=>ai J (ci sZ m4 J J)<|ai J (ce Ih J J)<|ai J (ci sZ m4 J J)<|ai J (ce Ih J J) ?_
 obtain⟨r2,h1t2,h0t2⟩:=og q_t2
 have q_r2g:=fun H=>(h1t2 H).1
 refine ai J (fun K=>dz adq (YG _ _ (q_r2g K)) ⟨(bM J K),(bM J K),aM⟩)<|s (dj (D J) (fun H=>(bM J H)) (fun H=>(h1t2 H).2) h0t2)<|a8 J<|bc<|s (cg (show aJ _ _ _ ((lK aY Uv p9 (fun(x:eY×eY)=>pQ x.1 x.2)))from(Ta adp fun x y h=>YF _ _ h)))<|br<|aB J<|aR J<|bL h fun t3 q_t3 h=>ai J (ci ve oN J J)<|ai J (ce lc J J)<|ai J (ci ve oN J J)<|ai J (ce lc J J) ?_
 obtain⟨r3,h1t3,h0t3⟩:=og q_t3
 have q_r3g:=fun H=>(h1t3 H).1
 refine ai J (fun K=>dz ZG (Nc _ _ (q_r3g K)) ⟨(bM J K),(bM J K),aM⟩)<|s (dj (D J) (fun H=>(bM J H)) (fun H=>(h1t3 H).2) h0t3)<|aR J<|bL h fun t4 q_t4 h=>ai J (ci nT gx J J)<|ai J (ce xh J J)<|ai J (ci nT gx J J)<|ai J (ce xh J J)<|ai J (dy J) ?_
 obtain⟨r4,h1t4,h0t4⟩:=og q_t4
 have q_r4g:=fun H=>(h1t4 H).1
 refine ai J (fun K=>dz ado (YE _ _ _ (q_r4g K)) ⟨(bM J K),(bM J K),(bM J K),aM⟩)<|s (dj (D J) (fun H=>(bM J H)) (fun H=>(h1t4 H).2) h0t4)<|aR J<|bL h fun t5 q_t5 h=>ai J (ci wx oM J J)<|ai J (ce Ii J J)<|ai J (ci wx oM J J)<|ai J (ce Ii J J) ?_
 obtain⟨r5,h1t5,h0t5⟩:=og q_t5
 have q_r5g:=fun H=>(h1t5 H).1
 exact ai J (fun K=>dz adn (YD _ _ _ (q_r5g K)) ⟨(bM J K),(bM J K),(Ta ZG fun x y h=>Nc _ _ h),aM⟩)<|s (dj (D J) (fun H=>(bM J H)) (fun H=>(h1t5 H).2) h0t5)<|bq J<|so h▸aN J J

def YC s1 s2 eq{R}(h:da s1 s2 eq=some R):dR aY 72 [eg (cJ) s1,eg (cJ) s2,(lK aY Ux p9 (fun(x:dp×dp)=>eq x.1 x.2))] (gR R):=by
 refine fc Tryz.func72 J<|bc<|bz<|br<|bm<|aR J<|cr xe J<|aR J<|cr xe J<|s (kJ (D J) (D J))<|c0 h J (fun h=>?_) (fun h=>?_)
 ·exact bc<|bz<|bQ<|au<|so h▸aN J J
 ·refine jf<|bm<|aR J<|cr xe J<|s (bR hI)<|br<|aA<|bt (k:=15) J fun hN=>bN ?_;refine aV (fC (tV:=fun ls i=>(s1.drop i=ls)/\cS s2 eq ls i=some R) (Of:=fun _ i=>[]) (Gf:=fun _ i=>[(1,eg (cJ) s2),(2,(lK aY Ux p9 (fun(x:dp×dp)=>eq x.1 x.2))),(15,eg (cJ) s1),(16,nL s1),(17,bB (i:Int))]) (fun i h=>?_) (fun e tl ih i h=>?_) s1 0 ⟨J,h⟩) (bp J)
  ·obtain⟨V,h⟩:=h
   exact fv V J<|aG<|bc<|bz<|bQ<|so h▸aN J J
  ·obtain⟨V,h⟩:=h
   refine ft V J<|aU<|aA<|aB J<|fV xe qF J (eK V)<|bv qF pU J fun b=>ia J<|bw qF aw J<|be 8 J<|br<|aU ?_;refine ax<|aR J<|aR J<|bL h fun e1 q_e1 h=>fV xe qF J q_e1<|bv qF pU J fun b1=>bw qF aw J<|be 9 J<|br<|aB J<|fL qF J<|fL qF J<|bL h fun r q_r h=>s (lM (args:=Ux) (res:=AN) (f:=(fun(x:dp×dp)=>eq x.1 x.2)) (x:=((e,e1):dp×dp)) (D J) q_r ⟨(D J),(D J),aM⟩)<|s (gO (D J))<|c0 h J (fun h=>?_) (fun h=>?_)
   ·exact bc<|bz<|bQ<|eu<|au<|eu<|so h▸aN J J
   ·refine bE<|d6 V hN J ?_;exact bj (aV (ih (i+1) ⟨dZ V,h⟩) (bp J))

def YA s1 s2 eq{R}(h:cP s1 s2 eq=some R):dR aY 74 [eg (bl) s1,eg (bl) s2,(lK aY Ry p9 (fun(x:aa×aa)=>eq x.1 x.2))] (gR R):=by
 refine fc Tryz.func74 J<|bc<|bz<|br<|bm<|aR J<|cr uj J<|aR J<|cr uj J<|s (kJ (D J) (D J))<|c0 h J (fun h=>?_) (fun h=>?_)
 ·exact bc<|bz<|bQ<|au<|so h▸aN J J
 ·refine jf<|bm<|aR J<|cr uj J<|s (bR hI)<|br<|aA<|bt (k:=15) J fun hN=>bN ?_;refine aV (fC (tV:=fun ls i=>(s1.drop i=ls)/\cM s2 eq ls i=some R) (Of:=fun _ i=>[]) (Gf:=fun _ i=>[(1,eg (bl) s2),(2,(lK aY Ry p9 (fun(x:aa×aa)=>eq x.1 x.2))),(15,eg (bl) s1),(16,nL s1),(17,bB (i:Int))]) (fun i h=>?_) (fun e tl ih i h=>?_) s1 0 ⟨J,h⟩) (bp J)
  ·obtain⟨V,h⟩:=h
   exact fv V J<|aG<|bc<|bz<|bQ<|so h▸aN J J
  ·obtain⟨V,h⟩:=h
   refine ft V J<|aU<|aA<|aB J<|fV uj gB J (eK V)<|bv gB k9 J fun b=>ia J<|bw gB aw J<|be 8 J<|br<|aU ?_;refine ax<|aR J<|aR J<|bL h fun e1 q_e1 h=>fV uj gB J q_e1<|bv gB k9 J fun b1=>bw gB aw J<|be 9 J<|br<|aB J<|fL gB J<|fL gB J<|bL h fun r q_r h=>s (lM (args:=Ry) (res:=AN) (f:=(fun(x:aa×aa)=>eq x.1 x.2)) (x:=((e,e1):aa×aa)) (D J) q_r ⟨(D J),(D J),aM⟩)<|s (gO (D J))<|c0 h J (fun h=>?_) (fun h=>?_)
   ·exact bc<|bz<|bQ<|eu<|au<|eu<|so h▸aN J J
   ·refine bE<|d6 V hN J ?_;exact bj (aV (ih (i+1) ⟨dZ V,h⟩) (bp J))

def YB node p y{R}(h:sn node p y=some R):dR aY 73 [tD cJ p,tD cJ y,dk (rT ((lK aY Ry p9 (fun(x:aa×aa)=>node x.1 x.2)))) ()] (gR R):=by
 refine fc Tryz.func73 J<|bc<|fx J<|fx J<|bz<|br<|bc<|bG Fj vH b9 J<|bG Fj vH b9 J<|s (eh (D J) (D J))<|aR J<|ai J (ci Fi vG J J)<|ai J (ce b9 J J)<|ai J (ci Fi vG J J)<|ai J (ce b9 J J)<|ai J (fun K=>eh (bM J K) (bM J K))<|de J<|aR J<|bL h fun t q_t h=>?_;refine ai J (ci Cr tm J J)<|ai J (ce dc J J)<|ai J (ci Cr tm J J)<|ai J (ce dc J J) ?_
 obtain⟨r,h1t,h0t⟩:=og q_t
 have q_rg:=fun H=>(h1t H).1
 refine ai J (fun K=>dz ZH (Nf _ _ (q_rg K)) ⟨(bM J K),(bM J K),aM⟩)<|s (dj (D J) (fun H=>(bM J H)) (fun H=>(h1t H).2) h0t)<|aR J<|bL h fun t1 q_t1 h=>ai J (ci Af tn J J)<|ai J (ce FY J J)<|ai J (ci Af tn J J)<|ai J (ce FY J J)<|ai J (fun K=>KJ RV (D J)) ?_
 obtain⟨r1,h1t1,h0t1⟩:=og q_t1
 have q_r1g:=fun H=>(h1t1 H).1
 exact ai J (fun K=>dz adk (YA _ _ _ (q_r1g K)) ⟨(bM J K),(bM J K),(bM J K),aM⟩)<|s (dj (D J) (fun H=>(bM J H)) (fun H=>(h1t1 H).2) h0t1)<|bq J<|so h▸aN J J

def YQ a1 b{R}(h:yM a1 b=some R):dR aY 32 [tD mp a1,tD mp b] (gR R):=by
 refine fc Tryz.func32 J<|bc<|fx J<|fx J<|bz<|br<|bc<|bv (r:=rV) (x:= .nilFunc) RV (fun _=>⟨J,J⟩) J fun b1=>fb (dq (r' :=rT (Rx)) (x' :=()) (q:=rT (Rx)) (y:=()) RV J (B9 J) J (D J) (hTT Va (show aJ _ _ _ (Rx)from(Ta adr fun x y h=>YH _ _ h)))) fun _=>?_;refine(show RG _ _ _ _ (Q (rT (Rx)) 120 b1 ()::_) _ from ?_);exact be 5 J<|br<|bc<|bG wD pu Ik J<|bG wD pu Ik J<|s ((show cu _ _ _ _ ((lK aY Ux p9 (fun(x:dp×dp)=>(sn oA) x.1 x.2)))from xT (cts:=[dk (rT (Rx)) ()]) (caps:=[.tmp 5]) adl ⟨(D J),aM⟩ (fun x y h=>YB _ _ _ h)))<|iq h adm (YC _ _ _) (ez J) fun r h=>bq J<|so h▸aN J J

def I3 a1 b{R}(h:qg a1 b=some R):dR aY 14 [tD fM a1,tD fM b] (gR R):=by
 refine fc Tryz.func14 J<|bc<|fx J<|fx J<|bz<|br<|bc<|bG ym t7 b9 J<|bG Fl Bv b9 J<|bG Fk Bu b9 J<|bG Cs yi b9 J<|bG yl yh b9 J<|bG Ai yg b9 J<|s (th (r:=bP) (ys:=[a1.Kind,a1.From,a1.To,a1.Epoch,a1.Frag,a1.Sites]) (xs:=[.tmp 7,.tmp 9,.tmp 11,.tmp 13,.tmp 15,.tmp 17]) Tryz.underlying62 b9 J aaw J J ⟨(D J),(D J),(D J),(D J),(D J),(D J),aM⟩)<|sf ym t7 J ?_;refine fL b9 J<|bG Fl Bv b9 J<|bG Fk Bu b9 J<|bG Cs yi b9 J<|bG yl yh b9 J<|bG Ai yg b9 J<|s (th (r:=bP) (ys:=[b.Kind,b.From,b.To,b.Epoch,b.Frag,b.Sites]) (xs:=[.tmp 20,.tmp 22,.tmp 24,.tmp 26,.tmp 28,.tmp 30]) Tryz.underlying62 b9 J aaw J J ⟨(D J),(D J),(D J),(D J),(D J),(D J),aM⟩)<|s (IG ac9 (D J) (D J))<|a8 J<|aB J<|aR J<|ai J (ci yk ye J J)<|ai J (ce zO J J)<|ai J (ci yk ye J J)<|ai J (ce zO J J) ?_;refine ai J (fun K=>eh (bM J K) (bM J K))<|de J<|aR J<|bL h fun t q_t h=>ai J (ci wA vF J J)<|ai J (ce sP J J)<|ai J (ci wA vF J J)<|ai J (ce sP J J) ?_
 obtain⟨r,h1t,h0t⟩:=og q_t
 have q_rg:=fun H=>(h1t H).1
 refine ai J (fun K=>dz adH (YR _ _ (q_rg K)) ⟨(bM J K),(bM J K),aM⟩)<|s (dj (D J) (fun H=>(bM J H)) (fun H=>(h1t H).2) h0t)<|aR J<|bL h fun t1 q_t1 h=>ai J (ci Ah yf J J)<|ai J (ce Dl J J)<|ai J (ci Ah yf J J)<|ai J (ce Dl J J) ?_
 obtain⟨r1,h1t1,h0t1⟩:=og q_t1
 have q_r1g:=fun H=>(h1t1 H).1
 exact ai J (fun K=>dz adG (YQ _ _ (q_r1g K)) ⟨(bM J K),(bM J K),aM⟩)<|s (dj (D J) (fun H=>(bM J H)) (fun H=>(h1t1 H).2) h0t1)<|bq J<|so h▸aN J J

def YK m{R}(h:uH m=some R):dR aY 57 [tD fM m] (gR R):=by
 refine fc Tryz.func57 J<|bc<|fx J<|bz<|br<|bc<|fL jc J<|bv jc p7 J fun b=>bw jc aw J<|br<|bc<|aW 0 ym J<|ej b9 J EB J (D J) hI<|aW 1 Fl J<|ej b9 J EA J (D J) hI<|aW 2 Fk J<|ej b9 J J8 J (D J) hI<|aW 3 Cs J<|ej b9 J Ez J (D J) hI ?_;refine br<|bm<|bG ym t7 b9 J<|br<|aA<|bc<|bU J<|a8 J<|jE h J (fun h=>?_) (fun h=>?_)
 ·exact ax<|s (eG Dl aaV Ds J)<|aW 5 Ai J<|ej b9 J J7 J (D J) hI<|aW 6 Ah J<|bw Dl J6 J<|aX<|aF<|aG<|bc<|s (aE (x:=(bT.mk (0:Int) (0:Int) (0:Int) (0:Int) m.Frag (0:Int) vn m.Packet m.Err)) jc J J bo (.head _) (D J))<|s (eG jc K9 p7 J)<|iq h Wp (I3 _ _) (ez J) fun r h=>bq J<|aZ<|so h▸aN J J
 ·refine i0 (tV:=fun x=>qX m x=some R) (Of:=fun x=>[Q fM 34 b (bT.mk (0:Int) (0:Int) (0:Int) (0:Int) m.Frag m.Sites m.Plan m.Packet m.Err)]) (Gf:=fun x=>[(3,Z (M b 0)),(10,bB m.Kind),(16,gR x)]) (fun x h=>?_) (fun hg=>?_)
  ·skip
   refine jE h J (fun h=>?_) (fun h=>?_)
   ·exact ax<|s (eG sP Yw ql J)<|aW 4 yl J<|ej b9 J Ey J (D J) hI<|aW 7 wA J<|bw sP Ew J<|aX<|aF<|aG<|bc<|s (aE (x:=(bT.mk (0:Int) (0:Int) (0:Int) (0:Int) (0:Int) m.Sites m.Plan rn m.Err)) jc J J bo (.head _) (D J))<|s (eG jc K9 p7 J)<|iq h Wp (I3 _ _) (ez J) fun r1 h=>bq J<|aZ<|so h▸aN J J
   ·refine bc<|bU J<|a8 J<|jE h J (fun h=>?_) (fun h=>?_)
    ·exact ax<|aW 14 yk J<|ej zO J Ev J (D J) hI<|aX<|aF<|aG<|bc<|s (aE (x:=(bT.mk (0:Int) (0:Int) (0:Int) (0:Int) m.Frag m.Sites m.Plan m.Packet (0:Int))) jc J J bo (.head _) (D J))<|s (eG jc K9 p7 J)<|iq h Wp (I3 _ _) (ez J) fun r2 h=>bq J<|aZ<|so h▸aN J J
    ·exact bE<|aF<|aG<|bc<|s (aE (x:=(bT.mk (0:Int) (0:Int) (0:Int) (0:Int) m.Frag m.Sites m.Plan m.Packet m.Err)) jc J J bo (.head _) (D J))<|s (eG jc K9 p7 J)<|iq h Wp (I3 _ _) (ez J) fun r3 h=>bq J<|aZ<|so h▸aN J J
  ·skip
   refine bc<|bU J<|a8 J<|jE h J (fun h=>?_) (fun h=>?_)
   ·refine bE ?_;exact bZ (hg (m.Kind==(3:Int)) h) (bp J)
   ·refine ax<|bU J<|ia J<|aX ?_;exact bZ (hg (m.Kind==(4:Int)) h) (bp J)

def Yz c{R}(h:qZ c=some R):dR aY 81 [bB c] (gR R):=by
 exact fc Tryz.func81 J<|bc<|bz<|br<|aB J<|s (jd (D J) hI)<|aR J<|bD J (dy J)<|bD J (fun K=>iN (bM J K) hI)<|j5 J<|bq J<|so h▸aN J J

def V8 ae f{R}(h:lX ae f=some R):dR aY 129 [pF ae,(lK aY JJ p9 (fun(x:Int)=>f x))] (bB R):=by
 refine fc Tryz.func129 J<|bc<|cO<|br<|bm<|aR J<|cr fD J<|s (bR hI)<|br<|aA<|bt (k:=6) J fun hN=>bN ?_;refine aV (fC (tV:=fun ls i=>(ae.drop i=ls)/\f6 f ls i=some R) (Of:=fun _ i=>[]) (Gf:=fun _ i=>[(0,pF ae),(1,(lK aY JJ p9 (fun(x:Int)=>f x))),(7,nL ae),(8,bB (i:Int))]) (fun i h=>?_) (fun e tl ih i h=>?_) ae 0 ⟨J,h⟩) (bp J)
 ·obtain⟨V,h⟩:=h
  exact fv V J<|aG<|bc<|gZ<|so h▸aN J J
 ·obtain⟨V,h⟩:=h
  refine ft V J<|aU<|aA<|aB J<|a8 J<|aB J<|aR J<|aR J<|GE fD b9 J (eK V) ?_;refine fL b9 J<|bL h fun r q_r h=>s (lM (args:=Ru) (res:=AN) (f:=(fun(x:Int)=>f x)) (x:=((e):Int)) (D J) q_r ⟨(D J),aM⟩)<|c0 h J (fun h=>?_) (fun h=>?_)
  ·exact aB J<|bq J<|eu<|au<|eu<|so h▸aN J J
  ·refine bE<|d6 V hN J ?_;exact bj (aV (ih (i+1) ⟨dZ V,h⟩) (bp J))

def Na ae f{R}(h:eT ae f=some R):dR aY 83 [pF ae,(lK aY JJ p9 (fun(x:Int)=>f x))] (gR R):=by
 exact fc Tryz.func83 J<|bc<|bz<|br<|aB J<|aR J<|iq h acC (V8 _ _) (ez J) fun r h=>s (iN (D J) hI)<|bq J<|so h▸aN J J

def VX k{R}(h:pg k=some R):dR aY 202 [bB k] (gR R):=by
 exact fc Tryz.func202 J<|bc<|bz<|br<|aB J<|s (jd (D J) hI)<|aR J<|bD J (dy J)<|bD J (fun K=>gm (bM J K) hI)<|j5 J<|bq J<|so h▸aN J J

def Zo(b:Nat)(ix:OI) l{R}(h:jX l=some R):bk aY 163 [Z (M b 0)] (eN b l ix) (fun _:OI=>gR R.1) (fun j=>eN b R.2 j):=by
 refine bk.of Tryz.func163 J J J fun w0 S0=>?_;refine(show CG _ _ _ [Q (rH bu [(1,av (ix.h 0).1 (ix.h 0).2 l.kinds.length),(2,av (ix.h 1).1 (ix.h 1).2 l.open_.length)]) 168 b l,tip pJ 69 (ix.h 0).1 (ix.h 0).2 l.kinds,dr bP 3 (ix.h 1).1 (ix.h 1).2 l.open_] _ from ?_);refine bc<|bz<|br<|aB J<|aR J<|s (aC (D J))<|aW 3 ie J<|aW 7 q5 J<|s (aE (r:=rH bu [(1,av (ix.h 0).1 (ix.h 0).2 l.kinds.length),(2,av (ix.h 1).1 (ix.h 1).2 l.open_.length)]) (x:=l) dc J J (eI (er fT jA)) (.head _) (D J))<|s (aC (D J))<|aW 17 gk J<|fb (dq dc J (ot (hs' :=[(1,av (ix.h 0).1 (ix.h 0).2 l.kinds.length),(2,av (ix.h 1).1 (ix.h 1).2 l.open_.length)]) tf ⟨.inr ⟨J,J⟩,.inr ⟨J,J⟩,aM⟩ J) J (D J) (D J)) fun i=>?_;refine(show RG _ _ _ _ [_,_,_] _ from ?_);refine br<|aB J<|s (aC (D J))<|aW 3 ie J<|aW 7 q5 J<|s (aE (r:=rH bu [(1,av (ix.h 0).1 (ix.h 0).2 l.kinds.length),(2,av (ix.h 1).1 (ix.h 1).2 l.open_.length)]) (x:=({l with result:=l.n.Kinds}:al)) dc J J (eI (er fT jA)) (.head _) (D J))<|iq h ZC (Na _ _) ⟨(D J),(Ta ab1 fun x y h=>VX _ h),aM⟩ fun r h=>s (gO (D J))<|a8 J<|aB J<|aR J<|ai J (dy J)<|ai J (fun K=>aC (bM J K))<|ai J (fun K=>bV (n:=3) ie J (bM J K) J)<|ai J (fun K=>bV (n:=6) wy J (bM J K) J)<|ai J (fun K=>aE (r:=rH bu [(1,av (ix.h 0).1 (ix.h 0).2 l.kinds.length),(2,av (ix.h 1).1 (ix.h 1).2 l.open_.length)]) (x:=({l with result:=l.n.Kinds}:al)) b9 J J (eI (er fT oO)) (.head _) (bM J K)) ?_;refine ai J (fun K=>iN (bM J K) hI)<|de J<|aR J<|ai J (dy J)<|ai J (fun K=>aC (bM J K))<|ai J (fun K=>bV (n:=3) ie J (bM J K) J)<|ai J (fun K=>bV (n:=6) wy J (bM J K) J)<|ai J (fun K=>aE (r:=rH bu [(1,av (ix.h 0).1 (ix.h 0).2 l.kinds.length),(2,av (ix.h 1).1 (ix.h 1).2 l.open_.length)]) (x:=({l with result:=l.n.Kinds}:al)) b9 J J (eI (er fT oO)) (.head _) (bM J K))<|ai J (fun K=>jd (bM J K) hI)<|de J<|aR J<|ai J (dy J)<|ai J (fun K=>aC (bM J K))<|ai J (fun K=>bV (n:=3) ie J (bM J K) J)<|ai J (fun K=>bV (n:=7) q5 J (bM J K) J)<|ai J (fun K=>aE (r:=rH bu [(1,av (ix.h 0).1 (ix.h 0).2 l.kinds.length),(2,av (ix.h 1).1 (ix.h 1).2 l.open_.length)]) (x:=({l with result:=l.n.Kinds}:al)) dc J J (eI (er fT jA)) (.head _) (bM J K))<|ai J (mf fD J)<|ai J (fun K=>gm (bM J K) hI)<|de J<|aR J<|ai J (dy J)<|ai J (fun K=>aC (bM J K))<|ai J (fun K=>bV (n:=3) ie J (bM J K) J)<|ai J (fun K=>bV (n:=7) q5 J (bM J K) J) ?_;exact ai J (fun K=>aE (r:=rH bu [(1,av (ix.h 0).1 (ix.h 0).2 l.kinds.length),(2,av (ix.h 1).1 (ix.h 1).2 l.open_.length)]) (x:=({l with result:=l.n.Kinds}:al)) dc J J (eI (er fT jA)) (.head _) (bM J K))<|ai J (mf fD J)<|ai J (fun K=>hX (bM J K) hI)<|de J<|bq J<|aH<|aH<|aH<|so h▸bF J ix J J (fun _ _ h=>h)

def VW k{R}(h:nX k=some R):dR aY 203 [bB k] (gR R):=by
 exact fc Tryz.func203 J<|bc<|bz<|br<|aB J<|s (jd (D J) hI)<|aR J<|bD J (dy J)<|bD J (fun K=>gm (bM J K) hI)<|j5 J<|bq J<|so h▸aN J J

def Zn(b:Nat)(ix:OI) l{R}(h:ic l=some R):bk aY 164 [Z (M b 0)] (eN b l ix) (fun _:OI=>gR R.1) (fun j=>eN b R.2 j):=by
 refine bk.of Tryz.func164 J J J fun w0 S0=>?_;refine(show CG _ _ _ [Q (rH bu [(1,av (ix.h 0).1 (ix.h 0).2 l.kinds.length),(2,av (ix.h 1).1 (ix.h 1).2 l.open_.length)]) 168 b l,tip pJ 69 (ix.h 0).1 (ix.h 0).2 l.kinds,dr bP 3 (ix.h 1).1 (ix.h 1).2 l.open_] _ from ?_);refine bc<|bz<|br<|aB J<|aR J<|s (aC (D J))<|aW 3 ie J<|aW 7 q5 J<|s (aE (r:=rH bu [(1,av (ix.h 0).1 (ix.h 0).2 l.kinds.length),(2,av (ix.h 1).1 (ix.h 1).2 l.open_.length)]) (x:=l) dc J J (eI (er fT jA)) (.head _) (D J))<|s (aC (D J))<|aW 17 gk J<|fb (dq dc J (ot (hs' :=[(1,av (ix.h 0).1 (ix.h 0).2 l.kinds.length),(2,av (ix.h 1).1 (ix.h 1).2 l.open_.length)]) tf ⟨.inr ⟨J,J⟩,.inr ⟨J,J⟩,aM⟩ J) J (D J) (D J)) fun i=>?_;refine(show RG _ _ _ _ [_,_,_] _ from ?_);refine br<|aB J<|s (aC (D J))<|aW 3 ie J<|aW 7 q5 J<|s (aE (r:=rH bu [(1,av (ix.h 0).1 (ix.h 0).2 l.kinds.length),(2,av (ix.h 1).1 (ix.h 1).2 l.open_.length)]) (x:=({l with result:=l.n.Kinds}:al)) dc J J (eI (er fT jA)) (.head _) (D J))<|iq h ZC (Na _ _) ⟨(D J),(Ta ab0 fun x y h=>VW _ h),aM⟩ fun r h=>s (gO (D J))<|a8 J<|aB J<|aR J<|ai J (dy J)<|ai J (fun K=>aC (bM J K))<|ai J (fun K=>bV (n:=3) ie J (bM J K) J)<|ai J (fun K=>bV (n:=6) wy J (bM J K) J)<|ai J (fun K=>aE (r:=rH bu [(1,av (ix.h 0).1 (ix.h 0).2 l.kinds.length),(2,av (ix.h 1).1 (ix.h 1).2 l.open_.length)]) (x:=({l with result:=l.n.Kinds}:al)) b9 J J (eI (er fT oO)) (.head _) (bM J K)) ?_;refine ai J (fun K=>iN (bM J K) hI)<|de J<|aR J<|ai J (dy J)<|ai J (fun K=>aC (bM J K))<|ai J (fun K=>bV (n:=3) ie J (bM J K) J)<|ai J (fun K=>bV (n:=6) wy J (bM J K) J)<|ai J (fun K=>aE (r:=rH bu [(1,av (ix.h 0).1 (ix.h 0).2 l.kinds.length),(2,av (ix.h 1).1 (ix.h 1).2 l.open_.length)]) (x:=({l with result:=l.n.Kinds}:al)) b9 J J (eI (er fT oO)) (.head _) (bM J K))<|ai J (fun K=>jd (bM J K) hI)<|de J<|aR J<|ai J (dy J)<|ai J (fun K=>aC (bM J K))<|ai J (fun K=>bV (n:=3) ie J (bM J K) J)<|ai J (fun K=>bV (n:=7) q5 J (bM J K) J)<|ai J (fun K=>aE (r:=rH bu [(1,av (ix.h 0).1 (ix.h 0).2 l.kinds.length),(2,av (ix.h 1).1 (ix.h 1).2 l.open_.length)]) (x:=({l with result:=l.n.Kinds}:al)) dc J J (eI (er fT jA)) (.head _) (bM J K))<|ai J (mf fD J)<|ai J (fun K=>gm (bM J K) hI)<|de J<|aR J<|ai J (dy J)<|ai J (fun K=>aC (bM J K))<|ai J (fun K=>bV (n:=3) ie J (bM J K) J)<|ai J (fun K=>bV (n:=7) q5 J (bM J K) J) ?_;exact ai J (fun K=>aE (r:=rH bu [(1,av (ix.h 0).1 (ix.h 0).2 l.kinds.length),(2,av (ix.h 1).1 (ix.h 1).2 l.open_.length)]) (x:=({l with result:=l.n.Kinds}:al)) dc J J (eI (er fT jA)) (.head _) (bM J K))<|ai J (mf fD J)<|ai J (fun K=>hX (bM J K) hI)<|de J<|bq J<|aH<|aH<|aH<|so h▸bF J ix J J (fun _ _ h=>h)

end Go.Proofs.YtdohlidddcgfjaaGreat

