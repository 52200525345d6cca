/- bT of this claim: P1. -/
import Derived.Test.YtdohlidddcgfjaaGreatFdT
import Derived.Test.YtdohlidddcgfjaaGreatFdP0
set_option linter.all false
namespace Go.Proofs.YtdohlidddcgfjaaGreat
open Go
set_option maxRecDepth 100000

def XO s1 s2 eq{R}(h:cX s1 s2 eq=some R):dJ aY 71 [d8 (cU) s1,d8 (cU) s2,(lF aY WK pN (fun(x:aP×aP)=>eq x.1 x.2))] (gI R):=by
 refine eX Tryz.func71 J<|a8<|bA<|br<|bm<|aS J<|cw xb J<|aS J<|cw xb J<|s (kD (D J) (D J))<|cZ h J (fun h=>?_) (fun h=>?_)
 ·exact a8<|bA<|bS<|av<|so h▸aN J J
 ·refine jg<|bm<|aS J<|cw xb J<|s (bQ hI)<|br<|aA<|bt (k:=15) J fun hN=>bN ?_;refine aV (fv (tV:=fun ls i=>(s1.drop i=ls)/\cR s2 eq ls i=some R) (Of:=fun _ i=>[]) (Gf:=fun _ i=>[(1,d8 (cU) s2),(2,(lF aY WK pN (fun(x:aP×aP)=>eq x.1 x.2))),(15,d8 (cU) s1),(16,nz s1),(17,bC (i:Int))]) (fun i h=>?_) (fun e tl ih i h=>?_) s1 0 ⟨J,h⟩) (bo J)
  ·obtain⟨V,h⟩:=h
   exact fm V J<|aG<|a8<|bA<|bS<|so h▸aN J J
  ·obtain⟨V,h⟩:=h
   refine fj V J<|aT<|aA<|aB J<|fQ xb kY J (eF V)<|bw kY sr J fun b=>hE J<|bv kY ax J<|bf 8 J<|br<|aT ?_;refine aw<|aS J<|aS J<|bM h fun e1 q_e1 h=>fQ xb kY J q_e1<|bw kY sr J fun b1=>bv kY ax J<|bf 9 J<|br<|aB J<|fi kY J<|fi kY J<|bM h fun r q_r h=>s (lH (args:=WK) (res:=Aw) (f:=(fun(x:aP×aP)=>eq x.1 x.2)) (x:=((e,e1):aP×aP)) (D J) q_r ⟨(D J),(D J),aM⟩)<|s (gG (D J))<|cZ h J (fun h=>?_) (fun h=>?_)
   ·exact a8<|bA<|bS<|ei<|av<|ei<|so h▸aN J J
   ·refine bE<|dW V hN J ?_;exact bj (aV (ih (i+1) ⟨dQ V,h⟩) (bo J))

def XS p y{R}(h:oh p y=some R):dJ aY 65 [tD bl p,tD bl y] (gI R):=by
 refine eX Tryz.func65 J<|a8<|eZ J<|eZ J<|bA<|br<|a8<|bG lX eJ b9 J<|bG lX eJ b9 J<|s (d9 (D J) (D J))<|aS J<|ai J (cj sj we J J)<|ai J (ce b9 J J)<|ai J (cj sj we J J)<|ai J (ce b9 J J)<|ai J (fun H=>d9 (bL J H) (bL J H))<|c8 J<|aS J<|ai J (cj tE zS J J) ?_;refine ai J (ce b9 J J)<|ai J (cj tE zS J J)<|ai J (ce b9 J J)<|ai J (fun H=>d9 (bL J H) (bL J H))<|c8 J<|aS J<|ai J (cj wh oB J J)<|ai J (ce b9 J J)<|ai J (cj wh oB J J)<|ai J (ce b9 J J)<|ai J (fun H=>d9 (bL J H) (bL J H))<|c8 J<|aS J<|ai J (cj EW wd J J)<|ai J (ce Ad J J)<|ai J (cj EW wd J J)<|ai J (ce Ad J J)<|ai J (fun H=>Dm Ga (bL J H) (bL J H))<|c8 J<|aS J<|ai J (cj wi qk J J)<|ai J (ce b9 J J)<|ai J (cj wi qk J J)<|ai J (ce b9 J J) ?_;refine ai J (fun H=>d9 (bL J H) (bL J H))<|c8 J<|aZ J<|aB J<|aS J<|bM h fun t q_t h=>ai J (cj qO jv J J)<|ai J (ce c0 J J)<|ai J (cj qO jv J J)<|ai J (ce c0 J J) ?_
 obtain⟨r,h1t,h0t⟩:=og q_t
 have q_rg:=fun K=>(h1t K).1
 refine ai J (fun H=>db YK (MG _ _ (q_rg H)) ⟨(bL J H),(bL J H),aM⟩)<|s (de (D J) (fun K=>(bL J K)) (fun K=>(h1t K).2) h0t)<|aS J<|bM h fun t1 q_t1 h=>ai J (cj pX iQ J J)<|ai J (ce c0 J J)<|ai J (cj pX iQ J J)<|ai J (ce c0 J J) ?_
 obtain⟨r1,h1t1,h0t1⟩:=og q_t1
 have q_r1g:=fun K=>(h1t1 K).1
 refine ai J (fun H=>db YK (MG _ _ (q_r1g H)) ⟨(bL J H),(bL J H),aM⟩)<|s (de (D J) (fun K=>(bL J K)) (fun K=>(h1t1 K).2) h0t1)<|aS J<|bM h fun t2 q_t2 h=>ai J (cj sH mU J J)<|ai J (ce HJ J J)<|ai J (cj sH mU J J)<|ai J (ce HJ J J) ?_
 obtain⟨r2,h1t2,h0t2⟩:=og q_t2
 have q_r2g:=fun K=>(h1t2 K).1
 refine ai J (fun H=>db acB (XR _ _ (q_r2g H)) ⟨(bL J H),(bL J H),aM⟩)<|s (de (D J) (fun K=>(bL J K)) (fun K=>(h1t2 K).2) h0t2)<|aZ J<|a8<|s (cg (show aJ _ _ _ ((lF aY TL pN (fun(x:eS×eS)=>py x.1 x.2)))from(Sp acA fun x y h=>XQ _ _ h)))<|br<|aB J<|aS J<|bM h fun t3 q_t3 h=>ai J (cj uS oA J J)<|ai J (ce kY J J)<|ai J (cj uS oA J J)<|ai J (ce kY J J) ?_
 obtain⟨r3,h1t3,h0t3⟩:=og q_t3
 have q_r3g:=fun K=>(h1t3 K).1
 refine ai J (fun H=>db YJ (MF _ _ (q_r3g H)) ⟨(bL J H),(bL J H),aM⟩)<|s (de (D J) (fun K=>(bL J K)) (fun K=>(h1t3 K).2) h0t3)<|aS J<|bM h fun t4 q_t4 h=>ai J (cj nI gr J J)<|ai J (ce wY J J)<|ai J (cj nI gr J J)<|ai J (ce wY J J)<|ai J (du J) ?_
 obtain⟨r4,h1t4,h0t4⟩:=og q_t4
 have q_r4g:=fun K=>(h1t4 K).1
 refine ai J (fun H=>db acz (XP _ _ _ (q_r4g H)) ⟨(bL J H),(bL J H),(bL J H),aM⟩)<|s (de (D J) (fun K=>(bL J K)) (fun K=>(h1t4 K).2) h0t4)<|aS J<|bM h fun t5 q_t5 h=>ai J (cj wg oz J J)<|ai J (ce HK J J)<|ai J (cj wg oz J J)<|ai J (ce HK J J) ?_
 obtain⟨r5,h1t5,h0t5⟩:=og q_t5
 have q_r5g:=fun K=>(h1t5 K).1
 exact ai J (fun H=>db acy (XO _ _ _ (q_r5g H)) ⟨(bL J H),(bL J H),(Sp YJ fun x y h=>MF _ _ h),aM⟩)<|s (de (D J) (fun K=>(bL J K)) (fun K=>(h1t5 K).2) h0t5)<|bq J<|so h▸aN J J

def XN s1 s2 eq{R}(h:cW s1 s2 eq=some R):dJ aY 72 [d8 (cG) s1,d8 (cG) s2,(lF aY TN pN (fun(x:di×di)=>eq x.1 x.2))] (gI R):=by
 refine eX Tryz.func72 J<|a8<|bA<|br<|bm<|aS J<|cw wV J<|aS J<|cw wV J<|s (kD (D J) (D J))<|cZ h J (fun h=>?_) (fun h=>?_)
 ·exact a8<|bA<|bS<|av<|so h▸aN J J
 ·refine jg<|bm<|aS J<|cw wV J<|s (bQ hI)<|br<|aA<|bt (k:=15) J fun hN=>bN ?_;refine aV (fv (tV:=fun ls i=>(s1.drop i=ls)/\cQ s2 eq ls i=some R) (Of:=fun _ i=>[]) (Gf:=fun _ i=>[(1,d8 (cG) s2),(2,(lF aY TN pN (fun(x:di×di)=>eq x.1 x.2))),(15,d8 (cG) s1),(16,nz s1),(17,bC (i:Int))]) (fun i h=>?_) (fun e tl ih i h=>?_) s1 0 ⟨J,h⟩) (bo J)
  ·obtain⟨V,h⟩:=h
   exact fm V J<|aG<|a8<|bA<|bS<|so h▸aN J J
  ·obtain⟨V,h⟩:=h
   refine fj V J<|aT<|aA<|aB J<|fQ wV qq J (eF V)<|bw qq pF J fun b=>hE J<|bv qq ax J<|bf 8 J<|br<|aT ?_;refine aw<|aS J<|aS J<|bM h fun e1 q_e1 h=>fQ wV qq J q_e1<|bw qq pF J fun b1=>bv qq ax J<|bf 9 J<|br<|aB J<|fi qq J<|fi qq J<|bM h fun r q_r h=>s (lH (args:=TN) (res:=Aw) (f:=(fun(x:di×di)=>eq x.1 x.2)) (x:=((e,e1):di×di)) (D J) q_r ⟨(D J),(D J),aM⟩)<|s (gG (D J))<|cZ h J (fun h=>?_) (fun h=>?_)
   ·exact a8<|bA<|bS<|ei<|av<|ei<|so h▸aN J J
   ·refine bE<|dW V hN J ?_;exact bj (aV (ih (i+1) ⟨dQ V,h⟩) (bo J))

def XL s1 s2 eq{R}(h:cN s1 s2 eq=some R):dJ aY 74 [d8 (bl) s1,d8 (bl) s2,(lF aY QU pN (fun(x:aa×aa)=>eq x.1 x.2))] (gI R):=by
 refine eX Tryz.func74 J<|a8<|bA<|br<|bm<|aS J<|cw tR J<|aS J<|cw tR J<|s (kD (D J) (D J))<|cZ h J (fun h=>?_) (fun h=>?_)
 ·exact a8<|bA<|bS<|av<|so h▸aN J J
 ·refine jg<|bm<|aS J<|cw tR J<|s (bQ hI)<|br<|aA<|bt (k:=15) J fun hN=>bN ?_;refine aV (fv (tV:=fun ls i=>(s1.drop i=ls)/\cJ s2 eq ls i=some R) (Of:=fun _ i=>[]) (Gf:=fun _ i=>[(1,d8 (bl) s2),(2,(lF aY QU pN (fun(x:aa×aa)=>eq x.1 x.2))),(15,d8 (bl) s1),(16,nz s1),(17,bC (i:Int))]) (fun i h=>?_) (fun e tl ih i h=>?_) s1 0 ⟨J,h⟩) (bo J)
  ·obtain⟨V,h⟩:=h
   exact fm V J<|aG<|a8<|bA<|bS<|so h▸aN J J
  ·obtain⟨V,h⟩:=h
   refine fj V J<|aT<|aA<|aB J<|fQ tR gv J (eF V)<|bw gv kV J fun b=>hE J<|bv gv ax J<|bf 8 J<|br<|aT ?_;refine aw<|aS J<|aS J<|bM h fun e1 q_e1 h=>fQ tR gv J q_e1<|bw gv kV J fun b1=>bv gv ax J<|bf 9 J<|br<|aB J<|fi gv J<|fi gv J<|bM h fun r q_r h=>s (lH (args:=QU) (res:=Aw) (f:=(fun(x:aa×aa)=>eq x.1 x.2)) (x:=((e,e1):aa×aa)) (D J) q_r ⟨(D J),(D J),aM⟩)<|s (gG (D J))<|cZ h J (fun h=>?_) (fun h=>?_)
   ·exact a8<|bA<|bS<|ei<|av<|ei<|so h▸aN J J
   ·refine bE<|dW V hN J ?_;exact bj (aV (ih (i+1) ⟨dQ V,h⟩) (bo J))

def XM node p y{R}(h:rY node p y=some R):dJ aY 73 [tD cG p,tD cG y,df (rT ((lF aY QU pN (fun(x:aa×aa)=>node x.1 x.2)))) ()] (gI R):=by
 refine eX Tryz.func73 J<|a8<|eZ J<|eZ J<|bA<|br<|a8<|bG EY vr b9 J<|bG EY vr b9 J<|s (d9 (D J) (D J))<|aS J<|ai J (cj EX vq J J)<|ai J (ce b9 J J)<|ai J (cj EX vq J J)<|ai J (ce b9 J J)<|ai J (fun H=>d9 (bL J H) (bL J H))<|c8 J<|aS J<|bM h fun t q_t h=>?_;refine ai J (cj B6 sV J J)<|ai J (ce c0 J J)<|ai J (cj B6 sV J J)<|ai J (ce c0 J J) ?_
 obtain⟨r,h1t,h0t⟩:=og q_t
 have q_rg:=fun K=>(h1t K).1
 refine ai J (fun H=>db YK (MG _ _ (q_rg H)) ⟨(bL J H),(bL J H),aM⟩)<|s (de (D J) (fun K=>(bL J K)) (fun K=>(h1t K).2) h0t)<|aS J<|bM h fun t1 q_t1 h=>ai J (cj zT sW J J)<|ai J (ce FC J J)<|ai J (cj zT sW J J)<|ai J (ce FC J J)<|ai J (fun H=>Ka Ri (D J)) ?_
 obtain⟨r1,h1t1,h0t1⟩:=og q_t1
 have q_r1g:=fun K=>(h1t1 K).1
 exact ai J (fun H=>db acv (XL _ _ _ (q_r1g H)) ⟨(bL J H),(bL J H),(bL J H),aM⟩)<|s (de (D J) (fun K=>(bL J K)) (fun K=>(h1t1 K).2) h0t1)<|bq J<|so h▸aN J J

def X1 a1 b{R}(h:yy a1 b=some R):dJ aY 32 [tD mh a1,tD mh b] (gI R):=by
 refine eX Tryz.func32 J<|a8<|eZ J<|eZ J<|bA<|br<|a8<|bw (r:=rV) (x:= .nilFunc) Ri (fun _=>⟨J,J⟩) J fun b1=>eW (dj (r' :=rT (QT)) (x' :=()) (q:=rT (QT)) (y:=()) Ri J (BN J) J (D J) (hTT Up (show aJ _ _ _ (QT)from(Sp acC fun x y h=>XS _ _ h)))) fun _=>?_;refine(show RG _ _ _ _ (Q (rT (QT)) 120 b1 ()::_) _ from ?_);exact bf 5 J<|br<|a8<|bG wm pb HN J<|bG wm pb HN J<|s ((show cr _ _ _ _ ((lF aY TN pN (fun(x:di×di)=>(rY oh) x.1 x.2)))from xE (cts:=[df (rT (QT)) ()]) (caps:=[.tmp 5]) acw ⟨(D J),aM⟩ (fun x y h=>XM _ _ _ h)))<|iw h acx (XN _ _ _) (ea J) fun r h=>bq J<|so h▸aN J J

def B8 a1 b{R}(h:m1 a1 b=some R):dJ aY 14 [tD fz a1,tD fz b] (gI R):=by
 refine eX Tryz.func14 J<|a8<|eZ J<|eZ J<|bA<|br<|a8<|bG xW tB b9 J<|bG E0 Ba b9 J<|bG EZ A9 b9 J<|bG B7 xS b9 J<|bG xV xR b9 J<|bG zV xQ b9 J<|s (sS (r:=bP) (ys:=[a1.Kind,a1.From,a1.To,a1.Epoch,a1.Frag,a1.Sites]) (xs:=[.tmp 7,.tmp 9,.tmp 11,.tmp 13,.tmp 15,.tmp 17]) Tryz.underlying62 b9 J ZC J J ⟨(D J),(D J),(D J),(D J),(D J),(D J),aM⟩)<|rP xW tB J ?_;refine fi b9 J<|bG E0 Ba b9 J<|bG EZ A9 b9 J<|bG B7 xS b9 J<|bG xV xR b9 J<|bG zV xQ b9 J<|s (sS (r:=bP) (ys:=[b.Kind,b.From,b.To,b.Epoch,b.Frag,b.Sites]) (xs:=[.tmp 20,.tmp 22,.tmp 24,.tmp 26,.tmp 28,.tmp 30]) Tryz.underlying62 b9 J ZC J J ⟨(D J),(D J),(D J),(D J),(D J),(D J),aM⟩)<|s (Ii acl (D J) (D J))<|aZ J<|aB J<|aS J<|ai J (cj xU xO J J)<|ai J (ce zx J J)<|ai J (cj xU xO J J)<|ai J (ce zx J J) ?_;refine ai J (fun H=>d9 (bL J H) (bL J H))<|c8 J<|aS J<|bM h fun t q_t h=>ai J (cj wj vp J J)<|ai J (ce sx J J)<|ai J (cj wj vp J J)<|ai J (ce sx J J) ?_
 obtain⟨r,h1t,h0t⟩:=og q_t
 have q_rg:=fun K=>(h1t K).1
 refine ai J (fun H=>db acS (X2 _ _ (q_rg H)) ⟨(bL J H),(bL J H),aM⟩)<|s (de (D J) (fun K=>(bL J K)) (fun K=>(h1t K).2) h0t)<|aS J<|bM h fun t1 q_t1 h=>ai J (cj zU xP J J)<|ai J (ce C3 J J)<|ai J (cj zU xP J J)<|ai J (ce C3 J J) ?_
 obtain⟨r1,h1t1,h0t1⟩:=og q_t1
 have q_r1g:=fun K=>(h1t1 K).1
 exact ai J (fun H=>db acR (X1 _ _ (q_r1g H)) ⟨(bL J H),(bL J H),aM⟩)<|s (de (D J) (fun K=>(bL J K)) (fun K=>(h1t1 K).2) h0t1)<|bq J<|so h▸aN J J

def XV m{R}(h:uq m=some R):dJ aY 57 [tD fz m] (gI R):=by
 refine eX Tryz.func57 J<|a8<|eZ J<|bA<|br<|a8<|fi iz J<|bw iz qt J fun b=>bv iz ax J<|br<|a8<|aW 0 xW J<|ed b9 J Ed J (D J) hI<|aW 1 E0 J<|ed b9 J Ec J (D J) hI<|aW 2 EZ J<|ed b9 J JL J (D J) hI<|aW 3 B7 J<|ed b9 J Eb J (D J) hI ?_;refine br<|bm<|bG xW tB b9 J<|br<|aA<|a8<|bW J<|aZ J<|jz h J (fun h=>?_) (fun h=>?_)
 ·exact aw<|s (ez C3 Z6 Db J)<|aW 5 zV J<|ed b9 J JK J (D J) hI<|aW 6 zU J<|bv C3 JJ J<|aX<|aF<|aG<|a8<|s (aE (x:=(bR.mk (0:Int) (0:Int) (0:Int) (0:Int) m.Frag (0:Int) u5 m.Packet m.Err)) iz J J bp (.head _) (D J))<|s (ez iz Kx qt J)<|iw h Qp (B8 _ _) (ea J) fun r h=>bq J<|ba<|so h▸aN J J
 ·refine iV (tV:=fun x=>qJ m x=some R) (Of:=fun x=>[Q fz 34 b (bR.mk (0:Int) (0:Int) (0:Int) (0:Int) m.Frag m.Sites m.Plan m.Packet m.Err)]) (Gf:=fun x=>[(3,Z (M b 0)),(10,bC m.Kind),(16,gI x)]) (fun x h=>?_) (fun hb=>?_)
  ·skip
   refine jz h J (fun h=>?_) (fun h=>?_)
   ·exact aw<|s (ez sx XH pZ J)<|aW 4 xV J<|ed b9 J Ea J (D J) hI<|aW 7 wj J<|bv sx D9 J<|aX<|aF<|aG<|a8<|s (aE (x:=(bR.mk (0:Int) (0:Int) (0:Int) (0:Int) (0:Int) m.Sites m.Plan q8 m.Err)) iz J J bp (.head _) (D J))<|s (ez iz Kx qt J)<|iw h Qp (B8 _ _) (ea J) fun r1 h=>bq J<|ba<|so h▸aN J J
   ·refine a8<|bW J<|aZ J<|jz h J (fun h=>?_) (fun h=>?_)
    ·exact aw<|aW 14 xU J<|ed zx J D8 J (D J) hI<|aX<|aF<|aG<|a8<|s (aE (x:=(bR.mk (0:Int) (0:Int) (0:Int) (0:Int) m.Frag m.Sites m.Plan m.Packet (0:Int))) iz J J bp (.head _) (D J))<|s (ez iz Kx qt J)<|iw h Qp (B8 _ _) (ea J) fun r2 h=>bq J<|ba<|so h▸aN J J
    ·exact bE<|aF<|aG<|a8<|s (aE (x:=(bR.mk (0:Int) (0:Int) (0:Int) (0:Int) m.Frag m.Sites m.Plan m.Packet m.Err)) iz J J bp (.head _) (D J))<|s (ez iz Kx qt J)<|iw h Qp (B8 _ _) (ea J) fun r3 h=>bq J<|ba<|so h▸aN J J
  ·skip
   refine a8<|bW J<|aZ J<|jz h J (fun h=>?_) (fun h=>?_)
   ·refine bE ?_;exact bZ (hb (m.Kind==(3:Int)) h) (bo J)
   ·refine aw<|bW J<|hE J<|aX ?_;exact bZ (hb (m.Kind==(4:Int)) h) (bo J)

def XK c{R}(h:qL c=some R):dJ aY 81 [bC c] (gI R):=by
 exact eX Tryz.func81 J<|a8<|bA<|br<|aB J<|s (iZ (D J) hI)<|aS J<|bz J (du J)<|bz J (fun H=>iJ (bL J H) hI)<|jW J<|bq J<|so h▸aN J J

def Vl ae f{R}(h:lT ae f=some R):dJ aY 129 [pi ae,(lF aY Jm pN (fun(x:Int)=>f x))] (bC R):=by
 refine eX Tryz.func129 J<|a8<|cM<|br<|bm<|aS J<|cw fx J<|s (bQ hI)<|br<|aA<|bt (k:=6) J fun hN=>bN ?_;refine aV (fv (tV:=fun ls i=>(ae.drop i=ls)/\fU f ls i=some R) (Of:=fun _ i=>[]) (Gf:=fun _ i=>[(0,pi ae),(1,(lF aY Jm pN (fun(x:Int)=>f x))),(7,nz ae),(8,bC (i:Int))]) (fun i h=>?_) (fun e tl ih i h=>?_) ae 0 ⟨J,h⟩) (bo J)
 ·obtain⟨V,h⟩:=h
  exact fm V J<|aG<|a8<|gQ<|so h▸aN J J
 ·obtain⟨V,h⟩:=h
  refine fj V J<|aT<|aA<|aB J<|aZ J<|aB J<|aS J<|aS J<|Gi fx b9 J (eF V) ?_;refine fi b9 J<|bM h fun r q_r h=>s (lH (args:=QQ) (res:=Aw) (f:=(fun(x:Int)=>f x)) (x:=((e):Int)) (D J) q_r ⟨(D J),aM⟩)<|cZ h J (fun h=>?_) (fun h=>?_)
  ·exact aB J<|bq J<|ei<|av<|ei<|so h▸aN J J
  ·refine bE<|dW V hN J ?_;exact bj (aV (ih (i+1) ⟨dQ V,h⟩) (bo J))

def MD ae f{R}(h:eM ae f=some R):dJ aY 83 [pi ae,(lF aY Jm pN (fun(x:Int)=>f x))] (gI R):=by
 exact eX Tryz.func83 J<|a8<|bA<|br<|aB J<|aS J<|iw h abO (Vl _ _) (ea J) fun r h=>s (iJ (D J) hI)<|bq J<|so h▸aN J J

def Va k{R}(h:oU k=some R):dJ aY 202 [bC k] (gI R):=by
 exact eX Tryz.func202 J<|a8<|bA<|br<|aB J<|s (iZ (D J) hI)<|aS J<|bz J (du J)<|bz J (fun H=>ge (bL J H) hI)<|jW J<|bq J<|so h▸aN J J

def Yu(b:Nat)(ix:OI) l{R}(h:jR l=some R):bk aY 163 [Z (M b 0)] (eG b l ix) (fun _:OI=>gI R.1) (fun j=>eG b R.2 j):=by
 refine bk.of Tryz.func163 J J J fun w0 S0=>?_;refine(show CG _ _ _ [Q (rH bu [(1,au (ix.h 0).1 (ix.h 0).2 l.kinds.length),(2,au (ix.h 1).1 (ix.h 1).2 l.open_.length)]) 168 b l,tip po 69 (ix.h 0).1 (ix.h 0).2 l.kinds,dk bP 3 (ix.h 1).1 (ix.h 1).2 l.open_] _ from ?_);refine a8<|bA<|br<|aB J<|aS J<|s (aC (D J))<|aW 3 hU J<|aW 7 qO J<|s (aE (r:=rH bu [(1,au (ix.h 0).1 (ix.h 0).2 l.kinds.length),(2,au (ix.h 1).1 (ix.h 1).2 l.open_.length)]) (x:=l) c0 J J (eD (eh fO jv)) (.head _) (D J))<|s (aC (D J))<|aW 17 gc J<|eW (dj c0 J (n7 (hs' :=[(1,au (ix.h 0).1 (ix.h 0).2 l.kinds.length),(2,au (ix.h 1).1 (ix.h 1).2 l.open_.length)]) sR ⟨.inr ⟨J,J⟩,.inr ⟨J,J⟩,aM⟩ J) J (D J) (D J)) fun i=>?_;refine(show RG _ _ _ _ [_,_,_] _ from ?_);refine br<|aB J<|s (aC (D J))<|aW 3 hU J<|aW 7 qO J<|s (aE (r:=rH bu [(1,au (ix.h 0).1 (ix.h 0).2 l.kinds.length),(2,au (ix.h 1).1 (ix.h 1).2 l.open_.length)]) (x:=({l with result:=l.n.Kinds}:al)) c0 J J (eD (eh fO jv)) (.head _) (D J))<|iw h YH (MD _ _) ⟨(D J),(Sp abe fun x y h=>Va _ h),aM⟩ fun r h=>s (gG (D J))<|aZ J<|aB J<|aS J<|ai J (du J)<|ai J (fun H=>aC (bL J H))<|ai J (fun H=>bU (n:=3) hU J (bL J H) J)<|ai J (fun H=>bU (n:=6) wh J (bL J H) J)<|ai J (fun H=>aE (r:=rH bu [(1,au (ix.h 0).1 (ix.h 0).2 l.kinds.length),(2,au (ix.h 1).1 (ix.h 1).2 l.open_.length)]) (x:=({l with result:=l.n.Kinds}:al)) b9 J J (eD (eh fO oB)) (.head _) (bL J H)) ?_;refine ai J (fun H=>iJ (bL J H) hI)<|c8 J<|aS J<|ai J (du J)<|ai J (fun H=>aC (bL J H))<|ai J (fun H=>bU (n:=3) hU J (bL J H) J)<|ai J (fun H=>bU (n:=6) wh J (bL J H) J)<|ai J (fun H=>aE (r:=rH bu [(1,au (ix.h 0).1 (ix.h 0).2 l.kinds.length),(2,au (ix.h 1).1 (ix.h 1).2 l.open_.length)]) (x:=({l with result:=l.n.Kinds}:al)) b9 J J (eD (eh fO oB)) (.head _) (bL J H))<|ai J (fun H=>iZ (bL J H) hI)<|c8 J<|aS J<|ai J (du J)<|ai J (fun H=>aC (bL J H))<|ai J (fun H=>bU (n:=3) hU J (bL J H) J)<|ai J (fun H=>bU (n:=7) qO J (bL J H) J)<|ai J (fun H=>aE (r:=rH bu [(1,au (ix.h 0).1 (ix.h 0).2 l.kinds.length),(2,au (ix.h 1).1 (ix.h 1).2 l.open_.length)]) (x:=({l with result:=l.n.Kinds}:al)) c0 J J (eD (eh fO jv)) (.head _) (bL J H))<|ai J (ma fx J)<|ai J (fun H=>ge (bL J H) hI)<|c8 J<|aS J<|ai J (du J)<|ai J (fun H=>aC (bL J H))<|ai J (fun H=>bU (n:=3) hU J (bL J H) J)<|ai J (fun H=>bU (n:=7) qO J (bL J H) J) ?_;exact ai J (fun H=>aE (r:=rH bu [(1,au (ix.h 0).1 (ix.h 0).2 l.kinds.length),(2,au (ix.h 1).1 (ix.h 1).2 l.open_.length)]) (x:=({l with result:=l.n.Kinds}:al)) c0 J J (eD (eh fO jv)) (.head _) (bL J H))<|ai J (ma fx J)<|ai J (fun H=>g9 (bL J H) hI)<|c8 J<|bq J<|aH<|aH<|aH<|so h▸bF J ix J J (fun _ _ h=>h)

def U9 k{R}(h:nL k=some R):dJ aY 203 [bC k] (gI R):=by
 exact eX Tryz.func203 J<|a8<|bA<|br<|aB J<|s (iZ (D J) hI)<|aS J<|bz J (du J)<|bz J (fun H=>ge (bL J H) hI)<|jW J<|bq J<|so h▸aN J J

def Yt(b:Nat)(ix:OI) l{R}(h:hT l=some R):bk aY 164 [Z (M b 0)] (eG b l ix) (fun _:OI=>gI R.1) (fun j=>eG b R.2 j):=by
 refine bk.of Tryz.func164 J J J fun w0 S0=>?_;refine(show CG _ _ _ [Q (rH bu [(1,au (ix.h 0).1 (ix.h 0).2 l.kinds.length),(2,au (ix.h 1).1 (ix.h 1).2 l.open_.length)]) 168 b l,tip po 69 (ix.h 0).1 (ix.h 0).2 l.kinds,dk bP 3 (ix.h 1).1 (ix.h 1).2 l.open_] _ from ?_);refine a8<|bA<|br<|aB J<|aS J<|s (aC (D J))<|aW 3 hU J<|aW 7 qO J<|s (aE (r:=rH bu [(1,au (ix.h 0).1 (ix.h 0).2 l.kinds.length),(2,au (ix.h 1).1 (ix.h 1).2 l.open_.length)]) (x:=l) c0 J J (eD (eh fO jv)) (.head _) (D J))<|s (aC (D J))<|aW 17 gc J<|eW (dj c0 J (n7 (hs' :=[(1,au (ix.h 0).1 (ix.h 0).2 l.kinds.length),(2,au (ix.h 1).1 (ix.h 1).2 l.open_.length)]) sR ⟨.inr ⟨J,J⟩,.inr ⟨J,J⟩,aM⟩ J) J (D J) (D J)) fun i=>?_;refine(show RG _ _ _ _ [_,_,_] _ from ?_);refine br<|aB J<|s (aC (D J))<|aW 3 hU J<|aW 7 qO J<|s (aE (r:=rH bu [(1,au (ix.h 0).1 (ix.h 0).2 l.kinds.length),(2,au (ix.h 1).1 (ix.h 1).2 l.open_.length)]) (x:=({l with result:=l.n.Kinds}:al)) c0 J J (eD (eh fO jv)) (.head _) (D J))<|iw h YH (MD _ _) ⟨(D J),(Sp abd fun x y h=>U9 _ h),aM⟩ fun r h=>s (gG (D J))<|aZ J<|aB J<|aS J<|ai J (du J)<|ai J (fun H=>aC (bL J H))<|ai J (fun H=>bU (n:=3) hU J (bL J H) J)<|ai J (fun H=>bU (n:=6) wh J (bL J H) J)<|ai J (fun H=>aE (r:=rH bu [(1,au (ix.h 0).1 (ix.h 0).2 l.kinds.length),(2,au (ix.h 1).1 (ix.h 1).2 l.open_.length)]) (x:=({l with result:=l.n.Kinds}:al)) b9 J J (eD (eh fO oB)) (.head _) (bL J H)) ?_;refine ai J (fun H=>iJ (bL J H) hI)<|c8 J<|aS J<|ai J (du J)<|ai J (fun H=>aC (bL J H))<|ai J (fun H=>bU (n:=3) hU J (bL J H) J)<|ai J (fun H=>bU (n:=6) wh J (bL J H) J)<|ai J (fun H=>aE (r:=rH bu [(1,au (ix.h 0).1 (ix.h 0).2 l.kinds.length),(2,au (ix.h 1).1 (ix.h 1).2 l.open_.length)]) (x:=({l with result:=l.n.Kinds}:al)) b9 J J (eD (eh fO oB)) (.head _) (bL J H))<|ai J (fun H=>iZ (bL J H) hI)<|c8 J<|aS J<|ai J (du J)<|ai J (fun H=>aC (bL J H))<|ai J (fun H=>bU (n:=3) hU J (bL J H) J)<|ai J (fun H=>bU (n:=7) qO J (bL J H) J)<|ai J (fun H=>aE (r:=rH bu [(1,au (ix.h 0).1 (ix.h 0).2 l.kinds.length),(2,au (ix.h 1).1 (ix.h 1).2 l.open_.length)]) (x:=({l with result:=l.n.Kinds}:al)) c0 J J (eD (eh fO jv)) (.head _) (bL J H))<|ai J (ma fx J)<|ai J (fun H=>ge (bL J H) hI)<|c8 J<|aS J<|ai J (du J)<|ai J (fun H=>aC (bL J H))<|ai J (fun H=>bU (n:=3) hU J (bL J H) J)<|ai J (fun H=>bU (n:=7) qO J (bL J H) J) ?_;exact ai J (fun H=>aE (r:=rH bu [(1,au (ix.h 0).1 (ix.h 0).2 l.kinds.length),(2,au (ix.h 1).1 (ix.h 1).2 l.open_.length)]) (x:=({l with result:=l.n.Kinds}:al)) c0 J J (eD (eh fO jv)) (.head _) (bL J H))<|ai J (ma fx J)<|ai J (fun H=>g9 (bL J H) hI)<|c8 J<|bq J<|aH<|aH<|aH<|so h▸bF J ix J J (fun _ _ h=>h)

end Go.Proofs.YtdohlidddcgfjaaGreat

