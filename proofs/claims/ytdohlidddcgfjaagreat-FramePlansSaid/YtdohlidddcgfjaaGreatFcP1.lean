/- cE of this claim: P1. -/
import Derived.Test.YtdohlidddcgfjaaGreatFcT
import Derived.Test.YtdohlidddcgfjaaGreatFcP0
set_option linter.all false
namespace Go.Proofs.YtdohlidddcgfjaaGreat
open Go
set_option maxRecDepth 100000

def Xm s1 s2 eq{R}(h:gG s1 s2 eq=some R):cX bd 71 [em (bN) s1,em (bN) s2,(mI bd We qX (fun(x:aW×aW)=>eq x.1 x.2))] (fM R):=by
 refine dK Tryz.func71 J<|d<|bm<|bu<|aS<|Q J<|bI qD J<|Q J<|bI qD J<|s (du (D J) (D J))<|bW h J (fun h=>?_) (fun h=>?_)
 ·exact d<|bm<|bM<|af<|so h▸aA J J
 ·refine fN<|aS<|Q J<|bI qD J<|s (bT hI)<|bu<|ak<|bo (k:=15) J fun hN=>bA ?_;refine aH (eU (aa:=fun ls i=>(s1.drop i=ls)/\ei s2 eq ls i=some R) (Of:=fun _ i=>[]) (Gf:=fun _ i=>[(1,em (bN) s2),(2,(mI bd We qX (fun(x:aW×aW)=>eq x.1 x.2))),(15,em (bN) s1),(16,kE s1),(17,bH (i:Int))]) (fun i h=>?_) (fun e tl ih i h=>?_) s1 0 ⟨J,h⟩) (aX J)
  ·obtain⟨V,h⟩:=h
   exact ez V J<|au<|d<|bm<|bM<|so h▸aA J J
  ·obtain⟨V,h⟩:=h
   refine ew V J<|aP<|ak<|ax J<|dg qD gn J (dJ V)<|bz gn qO J fun b=>d6 J<|bO gn aB J<|bj 8 J<|bu<|aP ?_;refine aj<|Q J<|Q J<|bR h fun e1 q_e1 h=>dg qD gn J q_e1<|bz gn qO J fun b1=>bO gn aB J<|bj 9 J<|bu<|ax J<|dH gn J<|dH gn J<|bR h fun r q_r h=>s (mO (args:=We) (res:=AZ) (f:=(fun(x:aW×aW)=>eq x.1 x.2)) (x:=((e,e1):aW×aW)) (D J) q_r ⟨(D J),(D J),aZ⟩)<|s (fG (D J))<|bW h J (fun h=>?_) (fun h=>?_)
   ·exact d<|bm<|bM<|cx<|af<|cx<|so h▸aA J J
   ·refine bc<|dd V hN J ?_;exact aU (aH (ih (i+1) ⟨da V,h⟩) (aX J))

def Xq p y{R}(h:vk p y=some R):cX bd 65 [tD aM p,tD aM y] (fM R):=by
 refine dK Tryz.func65 J<|d<|dl J<|dl J<|bm<|bu<|d<|aQ ft cB bB J<|aQ ft cB bB J<|s (di (D J) (D J))<|Q J<|ae J (bv jw fS J J)<|ae J (bq bB J J)<|ae J (bv jw fS J J)<|ae J (bq bB J J)<|ae J (fun Y=>di (bl J Y) (bl J Y))<|cm J<|Q J<|ae J (bv kz hE J J) ?_;refine ae J (bq bB J J)<|ae J (bv kz hE J J)<|ae J (bq bB J J)<|ae J (fun Y=>di (bl J Y) (bl J Y))<|cm J<|Q J<|ae J (bv p6 ip J J)<|ae J (bq bB J J)<|ae J (bv p6 ip J J)<|ae J (bq bB J J)<|ae J (fun Y=>di (bl J Y) (bl J Y))<|cm J<|Q J<|ae J (bv xa pX J J)<|ae J (bq zF J J)<|ae J (bv xa pX J J)<|ae J (bq zF J J)<|ae J (fun Y=>Ig Gk (bl J Y) (bl J Y))<|cm J<|Q J<|ae J (bv qu jG J J)<|ae J (bq bB J J)<|ae J (bv qu jG J J)<|ae J (bq bB J J) ?_;refine ae J (fun Y=>di (bl J Y) (bl J Y))<|cm J<|aN J<|ax J<|Q J<|bR h fun t q_t h=>ae J (bv jI dW J J)<|ae J (bq cu J J)<|ae J (bv jI dW J J)<|ae J (bq cu J J) ?_
 obtain⟨r,h1t,h0t⟩:=og q_t
 have q_rg:=fun H=>(h1t H).1
 refine ae J (fun Y=>cD Yr (Mc _ _ (q_rg Y)) ⟨(bl J Y),(bl J Y),aZ⟩)<|s (co (D J) (fun H=>(bl J H)) (fun H=>(h1t H).2) h0t)<|Q J<|bR h fun t1 q_t1 h=>ae J (bv ju dE J J)<|ae J (bq cu J J)<|ae J (bv ju dE J J)<|ae J (bq cu J J) ?_
 obtain⟨r1,h1t1,h0t1⟩:=og q_t1
 have q_r1g:=fun H=>(h1t1 H).1
 refine ae J (fun Y=>cD Yr (Mc _ _ (q_r1g Y)) ⟨(bl J Y),(bl J Y),aZ⟩)<|s (co (D J) (fun H=>(bl J H)) (fun H=>(h1t1 H).2) h0t1)<|Q J<|bR h fun t2 q_t2 h=>ae J (bv jv ep J J)<|ae J (bq ur J J)<|ae J (bv jv ep J J)<|ae J (bq ur J J) ?_
 obtain⟨r2,h1t2,h0t2⟩:=og q_t2
 have q_r2g:=fun H=>(h1t2 H).1
 refine ae J (fun Y=>cD acq (Xp _ _ (q_r2g Y)) ⟨(bl J Y),(bl J Y),aZ⟩)<|s (co (D J) (fun H=>(bl J H)) (fun H=>(h1t2 H).2) h0t2)<|aN J<|d<|s (bU (show aY _ _ _ ((mI bd SY qX (fun(x:fU×fU)=>vL x.1 x.2)))from(Rt acp fun x y h=>Xo _ _ h)))<|bu<|ax J<|Q J<|bR h fun t3 q_t3 h=>ae J (bv pZ iQ J J)<|ae J (bq gn J J)<|ae J (bv pZ iQ J J)<|ae J (bq gn J J) ?_
 obtain⟨r3,h1t3,h0t3⟩:=og q_t3
 have q_r3g:=fun H=>(h1t3 H).1
 refine ae J (fun Y=>cD Yq (Mb _ _ (q_r3g Y)) ⟨(bl J Y),(bl J Y),aZ⟩)<|s (co (D J) (fun H=>(bl J H)) (fun H=>(h1t3 H).2) h0t3)<|Q J<|bR h fun t4 q_t4 h=>ae J (bv gA cO J J)<|ae J (bq o0 J J)<|ae J (bv gA cO J J)<|ae J (bq o0 J J)<|ae J (bX J) ?_
 obtain⟨r4,h1t4,h0t4⟩:=og q_t4
 have q_r4g:=fun H=>(h1t4 H).1
 refine ae J (fun Y=>cD aco (Xn _ _ _ (q_r4g Y)) ⟨(bl J Y),(bl J Y),(bl J Y),aZ⟩)<|s (co (D J) (fun H=>(bl J H)) (fun H=>(h1t4 H).2) h0t4)<|Q J<|bR h fun t5 q_t5 h=>ae J (bv oc io J J)<|ae J (bq wH J J)<|ae J (bv oc io J J)<|ae J (bq wH J J) ?_
 obtain⟨r5,h1t5,h0t5⟩:=og q_t5
 have q_r5g:=fun H=>(h1t5 H).1
 exact ae J (fun Y=>cD acn (Xm _ _ _ (q_r5g Y)) ⟨(bl J Y),(bl J Y),(Rt Yq fun x y h=>Mb _ _ h),aZ⟩)<|s (co (D J) (fun H=>(bl J H)) (fun H=>(h1t5 H).2) h0t5)<|bf J<|so h▸aA J J

def Xl s1 s2 eq{R}(h:gE s1 s2 eq=some R):cX bd 72 [em (cM) s1,em (cM) s2,(mI bd S2 qX (fun(x:dv×dv)=>eq x.1 x.2))] (fM R):=by
 refine dK Tryz.func72 J<|d<|bm<|bu<|aS<|Q J<|bI rA J<|Q J<|bI rA J<|s (du (D J) (D J))<|bW h J (fun h=>?_) (fun h=>?_)
 ·exact d<|bm<|bM<|af<|so h▸aA J J
 ·refine fN<|aS<|Q J<|bI rA J<|s (bT hI)<|bu<|ak<|bo (k:=15) J fun hN=>bA ?_;refine aH (eU (aa:=fun ls i=>(s1.drop i=ls)/\eh s2 eq ls i=some R) (Of:=fun _ i=>[]) (Gf:=fun _ i=>[(1,em (cM) s2),(2,(mI bd S2 qX (fun(x:dv×dv)=>eq x.1 x.2))),(15,em (cM) s1),(16,kE s1),(17,bH (i:Int))]) (fun i h=>?_) (fun e tl ih i h=>?_) s1 0 ⟨J,h⟩) (aX J)
  ·obtain⟨V,h⟩:=h
   exact ez V J<|au<|d<|bm<|bM<|so h▸aA J J
  ·obtain⟨V,h⟩:=h
   refine ew V J<|aP<|ak<|ax J<|dg rA nc J (dJ V)<|bz nc nf J fun b=>d6 J<|bO nc aB J<|bj 8 J<|bu<|aP ?_;refine aj<|Q J<|Q J<|bR h fun e1 q_e1 h=>dg rA nc J q_e1<|bz nc nf J fun b1=>bO nc aB J<|bj 9 J<|bu<|ax J<|dH nc J<|dH nc J<|bR h fun r q_r h=>s (mO (args:=S2) (res:=AZ) (f:=(fun(x:dv×dv)=>eq x.1 x.2)) (x:=((e,e1):dv×dv)) (D J) q_r ⟨(D J),(D J),aZ⟩)<|s (fG (D J))<|bW h J (fun h=>?_) (fun h=>?_)
   ·exact d<|bm<|bM<|cx<|af<|cx<|so h▸aA J J
   ·refine bc<|dd V hN J ?_;exact aU (aH (ih (i+1) ⟨da V,h⟩) (aX J))

def Xj s1 s2 eq{R}(h:gb s1 s2 eq=some R):cX bd 74 [em (aM) s1,em (aM) s2,(mI bd YR qX (fun(x:tV×tV)=>eq x.1 x.2))] (fM R):=by
 refine dK Tryz.func74 J<|d<|bm<|bu<|aS<|Q J<|bI j4 J<|Q J<|bI j4 J<|s (du (D J) (D J))<|bW h J (fun h=>?_) (fun h=>?_)
 ·exact d<|bm<|bM<|af<|so h▸aA J J
 ·refine fN<|aS<|Q J<|bI j4 J<|s (bT hI)<|bu<|ak<|bo (k:=15) J fun hN=>bA ?_;refine aH (eU (aa:=fun ls i=>(s1.drop i=ls)/\dL s2 eq ls i=some R) (Of:=fun _ i=>[]) (Gf:=fun _ i=>[(1,em (aM) s2),(2,(mI bd YR qX (fun(x:tV×tV)=>eq x.1 x.2))),(15,em (aM) s1),(16,kE s1),(17,bH (i:Int))]) (fun i h=>?_) (fun e tl ih i h=>?_) s1 0 ⟨J,h⟩) (aX J)
  ·obtain⟨V,h⟩:=h
   exact ez V J<|au<|d<|bm<|bM<|so h▸aA J J
  ·obtain⟨V,h⟩:=h
   refine ew V J<|aP<|ak<|ax J<|dg j4 dA J (dJ V)<|bz dA ie J fun b=>d6 J<|bO dA aB J<|bj 8 J<|bu<|aP ?_;refine aj<|Q J<|Q J<|bR h fun e1 q_e1 h=>dg j4 dA J q_e1<|bz dA ie J fun b1=>bO dA aB J<|bj 9 J<|bu<|ax J<|dH dA J<|dH dA J<|bR h fun r q_r h=>s (mO (args:=YR) (res:=AZ) (f:=(fun(x:tV×tV)=>eq x.1 x.2)) (x:=((e,e1):tV×tV)) (D J) q_r ⟨(D J),(D J),aZ⟩)<|s (fG (D J))<|bW h J (fun h=>?_) (fun h=>?_)
   ·exact d<|bm<|bM<|cx<|af<|cx<|so h▸aA J J
   ·refine bc<|dd V hN J ?_;exact aU (aH (ih (i+1) ⟨da V,h⟩) (aX J))

def Xk node p y{R}(h:yg node p y=some R):cX bd 73 [tD cM p,tD cM y,ck (rT ((mI bd YR qX (fun(x:tV×tV)=>node x.1 x.2)))) ()] (fM R):=by
 refine dK Tryz.func73 J<|d<|dl J<|dl J<|bm<|bu<|d<|aQ vR oT bB J<|aQ vR oT bB J<|s (di (D J) (D J))<|Q J<|ae J (bv vQ oS J J)<|ae J (bq bB J J)<|ae J (bv vQ oS J J)<|ae J (bq bB J J)<|ae J (fun Y=>di (bl J Y) (bl J Y))<|cm J<|Q J<|bR h fun t q_t h=>?_;refine ae J (bv sM lG J J)<|ae J (bq cu J J)<|ae J (bv sM lG J J)<|ae J (bq cu J J) ?_
 obtain⟨r,h1t,h0t⟩:=og q_t
 have q_rg:=fun H=>(h1t H).1
 refine ae J (fun Y=>cD Yr (Mc _ _ (q_rg Y)) ⟨(bl J Y),(bl J Y),aZ⟩)<|s (co (D J) (fun H=>(bl J H)) (fun H=>(h1t H).2) h0t)<|Q J<|bR h fun t1 q_t1 h=>ae J (bv sN mF J J)<|ae J (bq qe J J)<|ae J (bv sN mF J J)<|ae J (bq qe J J)<|ae J (fun Y=>J6 Qu (D J)) ?_
 obtain⟨r1,h1t1,h0t1⟩:=og q_t1
 have q_r1g:=fun H=>(h1t1 H).1
 exact ae J (fun Y=>cD ack (Xj _ _ _ (q_r1g Y)) ⟨(bl J Y),(bl J Y),(bl J Y),aZ⟩)<|s (co (D J) (fun H=>(bl J H)) (fun H=>(h1t1 H).2) h0t1)<|bf J<|so h▸aA J J

def Xz a1 b{R}(h:GR a1 b=some R):cX bd 32 [tD gq a1,tD gq b] (fM R):=by
 refine dK Tryz.func32 J<|d<|dl J<|dl J<|bm<|bu<|d<|bz (r:=rV) (x:= .nilFunc) Qu (fun _=>⟨J,J⟩) J fun b1=>fK (dF (r' :=rT (Qd)) (x' :=()) (q:=rT (Qd)) (y:=()) Qu J (su J) J (D J) (hTT TC (show aY _ _ _ (Qd)from(Rt acr fun x y h=>Xq _ _ h)))) fun _=>?_;refine(show RG _ _ _ _ (bx (rT (Qd)) 120 b1 ()::_) _ from ?_);exact bj 5 J<|bu<|d<|aQ nI gV v8 J<|aQ nI gV v8 J<|s ((show cI _ _ _ _ ((mI bd S2 qX (fun(x:dv×dv)=>(yg vk) x.1 x.2)))from yk (cts:=[ck (rT (Qd)) ()]) (caps:=[.tmp 5]) acl ⟨(D J),aZ⟩ (fun x y h=>Xk _ _ _ h)))<|eE h acm (Xl _ _ _) (cy J) fun r h=>bf J<|so h▸aA J J

def IB a1 b{R}(h:uG a1 b=some R):cX bd 14 [tD iC a1,tD iC b] (fM R):=by
 refine dK Tryz.func14 J<|d<|dl J<|dl J<|bm<|bu<|d<|aQ Ar wt bB J<|aQ E3 BC bB J<|aQ E2 BB bB J<|aQ Cw yA bB J<|aQ Cv yz bB J<|aQ Cu yy bB J<|s (uc (r:=bV) (ys:=[a1.Kind,a1.From,a1.To,a1.Epoch,a1.Frag,a1.Sites]) (xs:=[.tmp 7,.tmp 9,.tmp 11,.tmp 13,.tmp 15,.tmp 17]) Tryz.underlying62 bB J Zf J J ⟨(D J),(D J),(D J),(D J),(D J),(D J),aZ⟩)<|qE Ar wt J ?_;refine dH bB J<|aQ E3 BC bB J<|aQ E2 BB bB J<|aQ Cw yA bB J<|aQ Cv yz bB J<|aQ Cu yy bB J<|s (uc (r:=bV) (ys:=[b.Kind,b.From,b.To,b.Epoch,b.Frag,b.Sites]) (xs:=[.tmp 20,.tmp 22,.tmp 24,.tmp 26,.tmp 28,.tmp 30]) Tryz.underlying62 bB J Zf J J ⟨(D J),(D J),(D J),(D J),(D J),(D J),aZ⟩)<|s (y6 ab6 (D J) (D J))<|aN J<|ax J<|Q J<|ae J (bv Cs yw J J)<|ae J (bq B7 J J)<|ae J (bv Cs yw J J)<|ae J (bq B7 J J) ?_;refine ae J (fun Y=>di (bl J Y) (bl J Y))<|cm J<|Q J<|bR h fun t q_t h=>ae J (bv Ct yx J J)<|ae J (bq Ox J J)<|ae J (bv Ct yx J J)<|ae J (bq Ox J J) ?_
 obtain⟨r,h1t,h0t⟩:=og q_t
 have q_rg:=fun H=>(h1t H).1
 refine ae J (fun Y=>cD acH (XA _ _ (q_rg Y)) ⟨(bl J Y),(bl J Y),aZ⟩)<|s (co (D J) (fun H=>(bl J H)) (fun H=>(h1t H).2) h0t)<|Q J<|bR h fun t1 q_t1 h=>ae J (bv E1 BA J J)<|ae J (bq rD J J)<|ae J (bv E1 BA J J)<|ae J (bq rD J J) ?_
 obtain⟨r1,h1t1,h0t1⟩:=og q_t1
 have q_r1g:=fun H=>(h1t1 H).1
 exact ae J (fun Y=>cD acG (Xz _ _ (q_r1g Y)) ⟨(bl J Y),(bl J Y),aZ⟩)<|s (co (D J) (fun H=>(bl J H)) (fun H=>(h1t1 H).2) h0t1)<|bf J<|so h▸aA J J

def Xt m{R}(h:C0 m=some R):cX bd 57 [tD iC m] (fM R):=by
 refine dK Tryz.func57 J<|d<|dl J<|bm<|bu<|d<|dH zw J<|bz zw B5 J fun b=>bO zw aB J<|bu<|d<|bh 0 Ar J<|ek bB J JC J (D J) hI<|bh 1 E3 J<|ek bB J JB J (D J) hI<|bh 2 E2 J<|ek bB J QE J (D J) hI<|bh 3 Cw J<|ek bB J JA J (D J) hI ?_;refine bu<|aS<|aQ Ar wt bB J<|bu<|ak<|d<|bp J<|aN J<|fy h J (fun h=>?_) (fun h=>?_)
 ·exact aj<|s (ee rD Xc u3 J)<|bh 5 Cu J<|ek bB J QC J (D J) hI<|bh 6 E1 J<|bO rD QB J<|aJ<|al<|au<|d<|s (aL (x:=(rY.mk (0:Int) (0:Int) (0:Int) (0:Int) m.Frag (0:Int) (⟨[]⟩:eV) m.Packet m.Err)) zw J J bC (.head _) (D J))<|s (ee zw Rw B5 J)<|eE h Va (IB _ _) (cy J) fun r h=>bf J<|aV<|so h▸aA J J
 ·refine d5 (aa:=fun x=>uE m x=some R) (Of:=fun x=>[bx iC 34 b (rY.mk (0:Int) (0:Int) (0:Int) (0:Int) m.Frag m.Sites m.Plan m.Packet m.Err)]) (Gf:=fun x=>[(3,M (Z b 0)),(10,bH m.Kind),(16,fM x)]) (fun x h=>?_) (fun h2=>?_)
  ·skip
   refine fy h J (fun h=>?_) (fun h=>?_)
   ·exact aj<|s (ee Ox ab3 Gn J)<|bh 4 Cv J<|ek bB J QD J (D J) hI<|bh 7 Ct J<|bO Ox QA J<|aJ<|al<|au<|d<|s (aL (x:=(rY.mk (0:Int) (0:Int) (0:Int) (0:Int) (0:Int) m.Sites m.Plan (⟨(0:Int),(0:Int),(0:Int),(0:Int),(⟨[],false,(0:Int)⟩:p9)⟩:np) m.Err)) zw J J bC (.head _) (D J))<|s (ee zw Rw B5 J)<|eE h Va (IB _ _) (cy J) fun r1 h=>bf J<|aV<|so h▸aA J J
   ·refine d<|bp J<|aN J<|fy h J (fun h=>?_) (fun h=>?_)
    ·exact aj<|bh 14 Cs J<|ek B7 J Qz J (D J) hI<|aJ<|al<|au<|d<|s (aL (x:=(rY.mk (0:Int) (0:Int) (0:Int) (0:Int) m.Frag m.Sites m.Plan m.Packet (0:Int))) zw J J bC (.head _) (D J))<|s (ee zw Rw B5 J)<|eE h Va (IB _ _) (cy J) fun r2 h=>bf J<|aV<|so h▸aA J J
    ·exact bc<|al<|au<|d<|s (aL (x:=(rY.mk (0:Int) (0:Int) (0:Int) (0:Int) m.Frag m.Sites m.Plan m.Packet m.Err)) zw J J bC (.head _) (D J))<|s (ee zw Rw B5 J)<|eE h Va (IB _ _) (cy J) fun r3 h=>bf J<|aV<|so h▸aA J J
  ·skip
   refine d<|bp J<|aN J<|fy h J (fun h=>?_) (fun h=>?_)
   ·refine bc ?_;exact bE (h2 (m.Kind==(3:Int)) h) (aX J)
   ·refine aj<|bp J<|d6 J<|aJ ?_;exact bE (h2 (m.Kind==(4:Int)) h) (aX J)

def Xi c{R}(h:rU c=some R):cX bd 81 [bH c] (fM R):=by
 exact dK Tryz.func81 J<|d<|bm<|bu<|ax J<|s (fH (D J) hI)<|Q J<|aD J (bX J)<|aD J (fun Y=>dB (bl J Y) hI)<|dG J<|bf J<|so h▸aA J J

def UU ac f{R}(h:mY ac f=some R):cX bd 129 [jK ac,(mI bd Jc qX (fun(x:Int)=>f x))] (bH R):=by
 refine dK Tryz.func129 J<|d<|ca<|bu<|aS<|Q J<|bI df J<|s (bT hI)<|bu<|ak<|bo (k:=6) J fun hN=>bA ?_;refine aH (eU (aa:=fun ls i=>(ac.drop i=ls)/\gC f ls i=some R) (Of:=fun _ i=>[]) (Gf:=fun _ i=>[(0,jK ac),(1,(mI bd Jc qX (fun(x:Int)=>f x))),(7,kE ac),(8,bH (i:Int))]) (fun i h=>?_) (fun e tl ih i h=>?_) ac 0 ⟨J,h⟩) (aX J)
 ·obtain⟨V,h⟩:=h
  exact ez V J<|au<|d<|eg<|so h▸aA J J
 ·obtain⟨V,h⟩:=h
  refine ew V J<|aP<|ak<|ax J<|aN J<|ax J<|Q J<|Q J<|CT df bB J (dJ V) ?_;refine dH bB J<|bR h fun r q_r h=>s (mO (args:=Qa) (res:=AZ) (f:=(fun(x:Int)=>f x)) (x:=((e):Int)) (D J) q_r ⟨(D J),aZ⟩)<|bW h J (fun h=>?_) (fun h=>?_)
  ·exact ax J<|bf J<|cx<|af<|cx<|so h▸aA J J
  ·refine bc<|dd V hN J ?_;exact aU (aH (ih (i+1) ⟨da V,h⟩) (aX J))

def L9 ac f{R}(h:fD ac f=some R):cX bd 83 [jK ac,(mI bd Jc qX (fun(x:Int)=>f x))] (fM R):=by
 exact dK Tryz.func83 J<|d<|bm<|bu<|ax J<|Q J<|eE h abC (UU _ _) (cy J) fun r h=>s (dB (D J) hI)<|bf J<|so h▸aA J J

def UC k{R}(h:qj k=some R):cX bd 202 [bH k] (fM R):=by
 exact dK Tryz.func202 J<|d<|bm<|bu<|ax J<|s (fH (D J) hI)<|Q J<|aD J (bX J)<|aD J (fun Y=>dD (bl J Y) hI)<|dG J<|bf J<|so h▸aA J J

def X6(b:Nat)(ix:OI) l{R}(h:kx l=some R):bK bd 163 [M (Z b 0)] (fx b l ix) (fun _:OI=>fM R.1) (fun j=>fx b R.2 j):=by
 refine bK.of Tryz.func163 J J J fun w0 S0=>?_;refine(show CG _ _ _ [bx (rH bQ [(1,ay (ix.h 0).1 (ix.h 0).2 l.kinds.length),(2,ay (ix.h 1).1 (ix.h 1).2 l.open_.length)]) 168 b l,tip nq 69 (ix.h 0).1 (ix.h 0).2 l.kinds,db bV 3 (ix.h 1).1 (ix.h 1).2 l.open_] _ from ?_);refine d<|bm<|bu<|ax J<|Q J<|s (aO (D J))<|bh 3 iI J<|bh 7 jI J<|s (aL (r:=rH bQ [(1,ay (ix.h 0).1 (ix.h 0).2 l.kinds.length),(2,ay (ix.h 1).1 (ix.h 1).2 l.open_.length)]) (x:=l) cu J J (fF (fq gx dW)) (.head _) (D J))<|s (aO (D J))<|bh 17 gN J<|fK (dF cu J (pC (hs' :=[(1,ay (ix.h 0).1 (ix.h 0).2 l.kinds.length),(2,ay (ix.h 1).1 (ix.h 1).2 l.open_.length)]) ua ⟨.inr ⟨J,J⟩,.inr ⟨J,J⟩,aZ⟩ J) J (D J) (D J)) fun i=>?_;refine(show RG _ _ _ _ [_,_,_] _ from ?_);refine bu<|ax J<|s (aO (D J))<|bh 3 iI J<|bh 7 jI J<|s (aL (r:=rH bQ [(1,ay (ix.h 0).1 (ix.h 0).2 l.kinds.length),(2,ay (ix.h 1).1 (ix.h 1).2 l.open_.length)]) (x:=({l with result:=l.n.Kinds}:aq)) cu J J (fF (fq gx dW)) (.head _) (D J))<|eE h Yo (L9 _ _) ⟨(D J),(Rt aaV fun x y h=>UC _ h),aZ⟩ fun r h=>s (fG (D J))<|aN J<|ax J<|Q J<|ae J (bX J)<|ae J (fun Y=>aO (bl J Y))<|ae J (fun Y=>cr (n:=3) iI J (bl J Y) J)<|ae J (fun Y=>cr (n:=6) p6 J (bl J Y) J)<|ae J (fun Y=>aL (r:=rH bQ [(1,ay (ix.h 0).1 (ix.h 0).2 l.kinds.length),(2,ay (ix.h 1).1 (ix.h 1).2 l.open_.length)]) (x:=({l with result:=l.n.Kinds}:aq)) bB J J (fF (fq gx ip)) (.head _) (bl J Y)) ?_;refine ae J (fun Y=>dB (bl J Y) hI)<|cm J<|Q J<|ae J (bX J)<|ae J (fun Y=>aO (bl J Y))<|ae J (fun Y=>cr (n:=3) iI J (bl J Y) J)<|ae J (fun Y=>cr (n:=6) p6 J (bl J Y) J)<|ae J (fun Y=>aL (r:=rH bQ [(1,ay (ix.h 0).1 (ix.h 0).2 l.kinds.length),(2,ay (ix.h 1).1 (ix.h 1).2 l.open_.length)]) (x:=({l with result:=l.n.Kinds}:aq)) bB J J (fF (fq gx ip)) (.head _) (bl J Y))<|ae J (fun Y=>fH (bl J Y) hI)<|cm J<|Q J<|ae J (bX J)<|ae J (fun Y=>aO (bl J Y))<|ae J (fun Y=>cr (n:=3) iI J (bl J Y) J)<|ae J (fun Y=>cr (n:=7) jI J (bl J Y) J)<|ae J (fun Y=>aL (r:=rH bQ [(1,ay (ix.h 0).1 (ix.h 0).2 l.kinds.length),(2,ay (ix.h 1).1 (ix.h 1).2 l.open_.length)]) (x:=({l with result:=l.n.Kinds}:aq)) cu J J (fF (fq gx dW)) (.head _) (bl J Y))<|ae J (gp df J)<|ae J (fun Y=>dD (bl J Y) hI)<|cm J<|Q J<|ae J (bX J)<|ae J (fun Y=>aO (bl J Y))<|ae J (fun Y=>cr (n:=3) iI J (bl J Y) J)<|ae J (fun Y=>cr (n:=7) jI J (bl J Y) J) ?_;exact ae J (fun Y=>aL (r:=rH bQ [(1,ay (ix.h 0).1 (ix.h 0).2 l.kinds.length),(2,ay (ix.h 1).1 (ix.h 1).2 l.open_.length)]) (x:=({l with result:=l.n.Kinds}:aq)) cu J J (fF (fq gx dW)) (.head _) (bl J Y))<|ae J (gp df J)<|ae J (fun Y=>eY (bl J Y) hI)<|cm J<|bf J<|aT<|aT<|aT<|so h▸cj J ix J J (fun _ _ h=>h)

def UB k{R}(h:ph k=some R):cX bd 203 [bH k] (fM R):=by
 exact dK Tryz.func203 J<|d<|bm<|bu<|ax J<|s (fH (D J) hI)<|Q J<|aD J (bX J)<|aD J (fun Y=>dD (bl J Y) hI)<|dG J<|bf J<|so h▸aA J J

def X5(b:Nat)(ix:OI) l{R}(h:iH l=some R):bK bd 164 [M (Z b 0)] (fx b l ix) (fun _:OI=>fM R.1) (fun j=>fx b R.2 j):=by
 refine bK.of Tryz.func164 J J J fun w0 S0=>?_;refine(show CG _ _ _ [bx (rH bQ [(1,ay (ix.h 0).1 (ix.h 0).2 l.kinds.length),(2,ay (ix.h 1).1 (ix.h 1).2 l.open_.length)]) 168 b l,tip nq 69 (ix.h 0).1 (ix.h 0).2 l.kinds,db bV 3 (ix.h 1).1 (ix.h 1).2 l.open_] _ from ?_);refine d<|bm<|bu<|ax J<|Q J<|s (aO (D J))<|bh 3 iI J<|bh 7 jI J<|s (aL (r:=rH bQ [(1,ay (ix.h 0).1 (ix.h 0).2 l.kinds.length),(2,ay (ix.h 1).1 (ix.h 1).2 l.open_.length)]) (x:=l) cu J J (fF (fq gx dW)) (.head _) (D J))<|s (aO (D J))<|bh 17 gN J<|fK (dF cu J (pC (hs' :=[(1,ay (ix.h 0).1 (ix.h 0).2 l.kinds.length),(2,ay (ix.h 1).1 (ix.h 1).2 l.open_.length)]) ua ⟨.inr ⟨J,J⟩,.inr ⟨J,J⟩,aZ⟩ J) J (D J) (D J)) fun i=>?_;refine(show RG _ _ _ _ [_,_,_] _ from ?_);refine bu<|ax J<|s (aO (D J))<|bh 3 iI J<|bh 7 jI J<|s (aL (r:=rH bQ [(1,ay (ix.h 0).1 (ix.h 0).2 l.kinds.length),(2,ay (ix.h 1).1 (ix.h 1).2 l.open_.length)]) (x:=({l with result:=l.n.Kinds}:aq)) cu J J (fF (fq gx dW)) (.head _) (D J))<|eE h Yo (L9 _ _) ⟨(D J),(Rt aaU fun x y h=>UB _ h),aZ⟩ fun r h=>s (fG (D J))<|aN J<|ax J<|Q J<|ae J (bX J)<|ae J (fun Y=>aO (bl J Y))<|ae J (fun Y=>cr (n:=3) iI J (bl J Y) J)<|ae J (fun Y=>cr (n:=6) p6 J (bl J Y) J)<|ae J (fun Y=>aL (r:=rH bQ [(1,ay (ix.h 0).1 (ix.h 0).2 l.kinds.length),(2,ay (ix.h 1).1 (ix.h 1).2 l.open_.length)]) (x:=({l with result:=l.n.Kinds}:aq)) bB J J (fF (fq gx ip)) (.head _) (bl J Y)) ?_;refine ae J (fun Y=>dB (bl J Y) hI)<|cm J<|Q J<|ae J (bX J)<|ae J (fun Y=>aO (bl J Y))<|ae J (fun Y=>cr (n:=3) iI J (bl J Y) J)<|ae J (fun Y=>cr (n:=6) p6 J (bl J Y) J)<|ae J (fun Y=>aL (r:=rH bQ [(1,ay (ix.h 0).1 (ix.h 0).2 l.kinds.length),(2,ay (ix.h 1).1 (ix.h 1).2 l.open_.length)]) (x:=({l with result:=l.n.Kinds}:aq)) bB J J (fF (fq gx ip)) (.head _) (bl J Y))<|ae J (fun Y=>fH (bl J Y) hI)<|cm J<|Q J<|ae J (bX J)<|ae J (fun Y=>aO (bl J Y))<|ae J (fun Y=>cr (n:=3) iI J (bl J Y) J)<|ae J (fun Y=>cr (n:=7) jI J (bl J Y) J)<|ae J (fun Y=>aL (r:=rH bQ [(1,ay (ix.h 0).1 (ix.h 0).2 l.kinds.length),(2,ay (ix.h 1).1 (ix.h 1).2 l.open_.length)]) (x:=({l with result:=l.n.Kinds}:aq)) cu J J (fF (fq gx dW)) (.head _) (bl J Y))<|ae J (gp df J)<|ae J (fun Y=>dD (bl J Y) hI)<|cm J<|Q J<|ae J (bX J)<|ae J (fun Y=>aO (bl J Y))<|ae J (fun Y=>cr (n:=3) iI J (bl J Y) J)<|ae J (fun Y=>cr (n:=7) jI J (bl J Y) J) ?_;exact ae J (fun Y=>aL (r:=rH bQ [(1,ay (ix.h 0).1 (ix.h 0).2 l.kinds.length),(2,ay (ix.h 1).1 (ix.h 1).2 l.open_.length)]) (x:=({l with result:=l.n.Kinds}:aq)) cu J J (fF (fq gx dW)) (.head _) (bl J Y))<|ae J (gp df J)<|ae J (fun Y=>eY (bl J Y) hI)<|cm J<|bf J<|aT<|aT<|aT<|so h▸cj J ix J J (fun _ _ h=>h)

end Go.Proofs.YtdohlidddcgfjaaGreat

