/- bR of this claim: P1. -/
import Derived.Test.YtdohlidddcgfjaaGreatFbT
import Derived.Test.YtdohlidddcgfjaaGreatFbP0
set_option linter.all false
namespace Go.Proofs.YtdohlidddcgfjaaGreat
open Go
set_option maxRecDepth 100000

def RI s1 s2 eq{R}(h:eN s1 s2 eq=some R):dy aV 71 [ep (cD) s1,ep (cD) s2,(ke aV QP nM (fun(x:aM×aM)=>eq x.1 x.2))] (gw R):=by
 refine eu Tryz.func71 J<|a8<|bE<|bp<|bm<|aO J<|cw yI J<|aO J<|cw yI J<|s (jm (D J) (D J))<|dd h J (fun h=>?_) (fun h=>?_)
 ·exact a8<|bE<|cj<|aC<|so h▸aQ J J
 ·refine ji<|bm<|aO J<|cw yI J<|s (bU hI)<|bp<|aA<|bt (k:=15) J fun hN=>bV ?_;refine aT (gO (bx:=fun ls i=>(s1.drop i=ls)/\c9 s2 eq ls i=some R) (Of:=fun _ i=>[]) (Gf:=fun _ i=>[(1,ep (cD) s2),(2,(ke aV QP nM (fun(x:aM×aM)=>eq x.1 x.2))),(15,ep (cD) s1),(16,nu s1),(17,bA (i:Int))]) (fun i h=>?_) (fun e tl ih i h=>?_) s1 0 ⟨J,h⟩) (bj J)
  ·obtain⟨V,h⟩:=h
   exact ft V J<|aH<|a8<|bE<|cj<|so h▸aQ J J
  ·obtain⟨V,h⟩:=h
   refine fq V J<|aP<|aA<|ay J<|fP yI kX J (eo V)<|bw kX rr J fun b=>gU J<|bG kX aB J<|bg 8 J<|bp<|aP ?_;refine av<|aO J<|aO J<|bT h fun e1 q_e1 h=>fP yI kX J q_e1<|bw kX rr J fun b1=>bG kX aB J<|bg 9 J<|bp<|ay J<|eJ kX J<|eJ kX J<|bT h fun r q_r h=>s (ko (args:=QP) (res:=xB) (f:=(fun(x:aM×aM)=>eq x.1 x.2)) (x:=((e,e1):aM×aM)) (D J) q_r ⟨(D J),(D J),d⟩)<|s (fH (D J))<|dd h J (fun h=>?_) (fun h=>?_)
   ·exact a8<|bE<|cj<|fa<|aC<|fa<|so h▸aQ J J
   ·refine bD<|dY V hN J ?_;exact bf (aT (ih (i+1) ⟨dO V,h⟩) (bj J))

def RM p y{R}(h:rC p y=some R):dy aV 65 [tD bc p,tD bc y] (gw R):=by
 refine eu Tryz.func65 J<|a8<|eG J<|eG J<|bE<|bp<|a8<|bz kI dQ bS J<|bz kI dQ bS J<|s (dx (D J) (D J))<|aO J<|ah J (ca qe tL J J)<|ah J (b7 bS J J)<|ah J (ca qe tL J J)<|ah J (b7 bS J J)<|ah J (fun X=>dx (bC J X) (bC J X))<|cB J<|aO J<|ah J (ca q9 w7 J J) ?_;refine ah J (b7 bS J J)<|ah J (ca q9 w7 J J)<|ah J (b7 bS J J)<|ah J (fun X=>dx (bC J X) (bC J X))<|cB J<|aO J<|ah J (ca tN mU J J)<|ah J (b7 bS J J)<|ah J (ca tN mU J J)<|ah J (b7 bS J J)<|ah J (fun X=>dx (bC J X) (bC J X))<|cB J<|aO J<|ah J (ca BD tK J J)<|ah J (b7 yM J J)<|ah J (ca BD tK J J)<|ah J (b7 yM J J)<|ah J (fun X=>EC Jd (bC J X) (bC J X))<|cB J<|aO J<|ah J (ca tP oq J J)<|ah J (b7 bS J J)<|ah J (ca tP oq J J)<|ah J (b7 bS J J) ?_;refine ah J (fun X=>dx (bC J X) (bC J X))<|cB J<|aW J<|ay J<|aO J<|bT h fun t q_t h=>ah J (ca pr ja J J)<|ah J (b7 cF J J)<|ah J (ca pr ja J J)<|ah J (b7 cF J J) ?_
 obtain⟨r,h1t,h0t⟩:=og q_t
 have q_rg:=fun W=>(h1t W).1
 refine ah J (fun X=>c7 SM (IB _ _ (q_rg X)) ⟨(bC J X),(bC J X),d⟩)<|s (cA (D J) (fun W=>(bC J W)) (fun W=>(h1t W).2) h0t)<|aO J<|bT h fun t1 q_t1 h=>ah J (ca oT iq J J)<|ah J (b7 cF J J)<|ah J (ca oT iq J J)<|ah J (b7 cF J J) ?_
 obtain⟨r1,h1t1,h0t1⟩:=og q_t1
 have q_r1g:=fun W=>(h1t1 W).1
 refine ah J (fun X=>c7 SM (IB _ _ (q_r1g X)) ⟨(bC J X),(bC J X),d⟩)<|s (cA (D J) (fun W=>(bC J W)) (fun W=>(h1t1 W).2) h0t1)<|aO J<|bT h fun t2 q_t2 h=>ah J (ca rN mV J J)<|ah J (b7 FE J J)<|ah J (ca rN mV J J)<|ah J (b7 FE J J) ?_
 obtain⟨r2,h1t2,h0t2⟩:=og q_t2
 have q_r2g:=fun W=>(h1t2 W).1
 refine ah J (fun X=>c7 Wv (RL _ _ (q_r2g X)) ⟨(bC J X),(bC J X),d⟩)<|s (cA (D J) (fun W=>(bC J W)) (fun W=>(h1t2 W).2) h0t2)<|aW J<|a8<|s (bZ (show aI _ _ _ ((ke aV N4 nM (fun(x:fj×fj)=>sm x.1 x.2)))from(MU Wu fun x y h=>RK _ _ h)))<|bp<|ay J<|aO J<|bT h fun t3 q_t3 h=>ah J (ca tM nR J J)<|ah J (b7 kX J J)<|ah J (ca tM nR J J)<|ah J (b7 kX J J) ?_
 obtain⟨r3,h1t3,h0t3⟩:=og q_t3
 have q_r3g:=fun W=>(h1t3 W).1
 refine ah J (fun X=>c7 SL (IA _ _ (q_r3g X)) ⟨(bC J X),(bC J X),d⟩)<|s (cA (D J) (fun W=>(bC J W)) (fun W=>(h1t3 W).2) h0t3)<|aO J<|bT h fun t4 q_t4 h=>ah J (ca nr gc J J)<|ah J (b7 vY J J)<|ah J (ca nr gc J J)<|ah J (b7 vY J J)<|ah J (cN J) ?_
 obtain⟨r4,h1t4,h0t4⟩:=og q_t4
 have q_r4g:=fun W=>(h1t4 W).1
 refine ah J (fun X=>c7 Wt (RJ _ _ _ (q_r4g X)) ⟨(bC J X),(bC J X),(bC J X),d⟩)<|s (cA (D J) (fun W=>(bC J W)) (fun W=>(h1t4 W).2) h0t4)<|aO J<|bT h fun t5 q_t5 h=>ah J (ca w8 pp J J)<|ah J (b7 HA J J)<|ah J (ca w8 pp J J)<|ah J (b7 HA J J) ?_
 obtain⟨r5,h1t5,h0t5⟩:=og q_t5
 have q_r5g:=fun W=>(h1t5 W).1
 exact ah J (fun X=>c7 Ws (RI _ _ _ (q_r5g X)) ⟨(bC J X),(bC J X),(MU SL fun x y h=>IA _ _ h),d⟩)<|s (cA (D J) (fun W=>(bC J W)) (fun W=>(h1t5 W).2) h0t5)<|bk J<|so h▸aQ J J

def RH s1 s2 eq{R}(h:eM s1 s2 eq=some R):dy aV 72 [ep (ck) s1,ep (ck) s2,(ke aV N6 nM (fun(x:dE×dE)=>eq x.1 x.2))] (gw R):=by
 refine eu Tryz.func72 J<|a8<|bE<|bp<|bm<|aO J<|cw wD J<|aO J<|cw wD J<|s (jm (D J) (D J))<|dd h J (fun h=>?_) (fun h=>?_)
 ·exact a8<|bE<|cj<|aC<|so h▸aQ J J
 ·refine ji<|bm<|aO J<|cw wD J<|s (bU hI)<|bp<|aA<|bt (k:=15) J fun hN=>bV ?_;refine aT (gO (bx:=fun ls i=>(s1.drop i=ls)/\c8 s2 eq ls i=some R) (Of:=fun _ i=>[]) (Gf:=fun _ i=>[(1,ep (ck) s2),(2,(ke aV N6 nM (fun(x:dE×dE)=>eq x.1 x.2))),(15,ep (ck) s1),(16,nu s1),(17,bA (i:Int))]) (fun i h=>?_) (fun e tl ih i h=>?_) s1 0 ⟨J,h⟩) (bj J)
  ·obtain⟨V,h⟩:=h
   exact ft V J<|aH<|a8<|bE<|cj<|so h▸aQ J J
  ·obtain⟨V,h⟩:=h
   refine fq V J<|aP<|aA<|ay J<|fP wD pd J (eo V)<|bw pd oC J fun b=>gU J<|bG pd aB J<|bg 8 J<|bp<|aP ?_;refine av<|aO J<|aO J<|bT h fun e1 q_e1 h=>fP wD pd J q_e1<|bw pd oC J fun b1=>bG pd aB J<|bg 9 J<|bp<|ay J<|eJ pd J<|eJ pd J<|bT h fun r q_r h=>s (ko (args:=N6) (res:=xB) (f:=(fun(x:dE×dE)=>eq x.1 x.2)) (x:=((e,e1):dE×dE)) (D J) q_r ⟨(D J),(D J),d⟩)<|s (fH (D J))<|dd h J (fun h=>?_) (fun h=>?_)
   ·exact a8<|bE<|cj<|fa<|aC<|fa<|so h▸aQ J J
   ·refine bD<|dY V hN J ?_;exact bf (aT (ih (i+1) ⟨dO V,h⟩) (bj J))

def RE s1 s2 eq{R}(h:ef s1 s2 eq=some R):dy aV 74 [ep (bc) s1,ep (bc) s2,(ke aV S5 nM (fun(x:aa×aa)=>eq x.1 x.2))] (gw R):=by
 refine eu Tryz.func74 J<|a8<|bE<|bp<|bm<|aO J<|cw um J<|aO J<|cw um J<|s (jm (D J) (D J))<|dd h J (fun h=>?_) (fun h=>?_)
 ·exact a8<|bE<|cj<|aC<|so h▸aQ J J
 ·refine ji<|bm<|aO J<|cw um J<|s (bU hI)<|bp<|aA<|bt (k:=15) J fun hN=>bV ?_;refine aT (gO (bx:=fun ls i=>(s1.drop i=ls)/\cP s2 eq ls i=some R) (Of:=fun _ i=>[]) (Gf:=fun _ i=>[(1,ep (bc) s2),(2,(ke aV S5 nM (fun(x:aa×aa)=>eq x.1 x.2))),(15,ep (bc) s1),(16,nu s1),(17,bA (i:Int))]) (fun i h=>?_) (fun e tl ih i h=>?_) s1 0 ⟨J,h⟩) (bj J)
  ·obtain⟨V,h⟩:=h
   exact ft V J<|aH<|a8<|bE<|cj<|so h▸aQ J J
  ·obtain⟨V,h⟩:=h
   refine fq V J<|aP<|aA<|ay J<|fP um fG J (eo V)<|bw fG j7 J fun b=>gU J<|bG fG aB J<|bg 8 J<|bp<|aP ?_;refine av<|aO J<|aO J<|bT h fun e1 q_e1 h=>fP um fG J q_e1<|bw fG j7 J fun b1=>bG fG aB J<|bg 9 J<|bp<|ay J<|eJ fG J<|eJ fG J<|bT h fun r q_r h=>s (ko (args:=S5) (res:=xB) (f:=(fun(x:aa×aa)=>eq x.1 x.2)) (x:=((e,e1):aa×aa)) (D J) q_r ⟨(D J),(D J),d⟩)<|s (fH (D J))<|dd h J (fun h=>?_) (fun h=>?_)
   ·exact a8<|bE<|cj<|fa<|aC<|fa<|so h▸aQ J J
   ·refine bD<|dY V hN J ?_;exact bf (aT (ih (i+1) ⟨dO V,h⟩) (bj J))

def RF node p y{R}(h:uU node p y=some R):dy aV 73 [tD ck p,tD ck y,cH (rT ((ke aV S5 nM (fun(x:aa×aa)=>node x.1 x.2)))) ()] (gw R):=by
 refine eu Tryz.func73 J<|a8<|eG J<|eG J<|bE<|bp<|a8<|bz BG s0 bS J<|bz BG s0 bS J<|s (dx (D J) (D J))<|aO J<|ah J (ca BF sZ J J)<|ah J (b7 bS J J)<|ah J (ca BF sZ J J)<|ah J (b7 bS J J)<|ah J (fun X=>dx (bC J X) (bC J X))<|cB J<|aO J<|bT h fun t q_t h=>?_;refine ah J (ca BE sY J J)<|ah J (b7 cF J J)<|ah J (ca BE sY J J)<|ah J (b7 cF J J) ?_
 obtain⟨r,h1t,h0t⟩:=og q_t
 have q_rg:=fun W=>(h1t W).1
 refine ah J (fun X=>c7 SM (IB _ _ (q_rg X)) ⟨(bC J X),(bC J X),d⟩)<|s (cA (D J) (fun W=>(bC J W)) (fun W=>(h1t W).2) h0t)<|aO J<|bT h fun t1 q_t1 h=>ah J (ca y9 s3 J J)<|ah J (b7 Ej J J)<|ah J (ca y9 s3 J J)<|ah J (b7 Ej J J)<|ah J (fun X=>Ge Mc (D J)) ?_
 obtain⟨r1,h1t1,h0t1⟩:=og q_t1
 have q_r1g:=fun W=>(h1t1 W).1
 exact ah J (fun X=>c7 Wp (RE _ _ _ (q_r1g X)) ⟨(bC J X),(bC J X),(bC J X),d⟩)<|s (cA (D J) (fun W=>(bC J W)) (fun W=>(h1t1 W).2) h0t1)<|bk J<|so h▸aQ J J

def RS a1 b{R}(h:Do a1 b=some R):dy aV 32 [tD kj a1,tD kj b] (gw R):=by
 refine eu Tryz.func32 J<|a8<|eG J<|eG J<|bE<|bp<|a8<|bw (r:=rV) (x:= .nilFunc) Mc (fun _=>⟨J,J⟩) J fun b1=>d6 (cK (r' :=rT (LU)) (x' :=()) (q:=rT (LU)) (y:=()) Mc J (yS J) J (D J) (hTT OF (show aI _ _ _ (LU)from(MU Ww fun x y h=>RM _ _ h)))) fun _=>?_;refine(show RG _ _ _ _ (Z (rT (LU)) 120 b1 ()::_) _ from ?_);exact bg 5 J<|bp<|a8<|bz vh om FF J<|bz vh om FF J<|s ((show b9 _ _ _ _ ((ke aV N6 nM (fun(x:dE×dE)=>(uU rC) x.1 x.2)))from uY (cts:=[cH (rT (LU)) ()]) (caps:=[.tmp 5]) Wq ⟨(D J),d⟩ (fun x y h=>RF _ _ _ h)))<|iw h Wr (RH _ _ _) (eb J) fun r h=>bk J<|so h▸aQ J J

def ER a1 b{R}(h:q7 a1 b=some R):dy aV 14 [tD fS a1,tD fS b] (gw R):=by
 refine eu Tryz.func14 J<|a8<|eG J<|eG J<|bE<|bp<|a8<|bz w9 sX bS J<|bz BJ yc bS J<|bz BI yb bS J<|bz ze vf bS J<|bz zd ve bS J<|bz zc vd bS J<|s (qE (r:=bH) (ys:=[a1.Kind,a1.From,a1.To,a1.Epoch,a1.Frag,a1.Sites]) (xs:=[.tmp 7,.tmp 9,.tmp 11,.tmp 13,.tmp 15,.tmp 17]) Tryz.underlying62 bS J Tc J J ⟨(D J),(D J),(D J),(D J),(D J),(D J),d⟩)<|sG w9 sX J ?_;refine eJ bS J<|bz BJ yc bS J<|bz BI yb bS J<|bz ze vf bS J<|bz zd ve bS J<|bz zc vd bS J<|s (qE (r:=bH) (ys:=[b.Kind,b.From,b.To,b.Epoch,b.Frag,b.Sites]) (xs:=[.tmp 20,.tmp 22,.tmp 24,.tmp 26,.tmp 28,.tmp 30]) Tryz.underlying62 bS J Tc J J ⟨(D J),(D J),(D J),(D J),(D J),(D J),d⟩)<|s (EB Wf (D J) (D J))<|aW J<|ay J<|aO J<|ah J (ca za vb J J)<|ah J (b7 yN J J)<|ah J (ca za vb J J)<|ah J (b7 yN J J) ?_;refine ah J (fun X=>dx (bC J X) (bC J X))<|cB J<|aO J<|bT h fun t q_t h=>ah J (ca zb vc J J)<|ah J (b7 Ks J J)<|ah J (ca zb vc J J)<|ah J (b7 Ks J J) ?_
 obtain⟨r,h1t,h0t⟩:=og q_t
 have q_rg:=fun W=>(h1t W).1
 refine ah J (fun X=>c7 WI (RT _ _ (q_rg X)) ⟨(bC J X),(bC J X),d⟩)<|s (cA (D J) (fun W=>(bC J W)) (fun W=>(h1t W).2) h0t)<|aO J<|bT h fun t1 q_t1 h=>ah J (ca BH ya J J)<|ah J (b7 qa J J)<|ah J (ca BH ya J J)<|ah J (b7 qa J J) ?_
 obtain⟨r1,h1t1,h0t1⟩:=og q_t1
 have q_r1g:=fun W=>(h1t1 W).1
 exact ah J (fun X=>c7 WH (RS _ _ (q_r1g X)) ⟨(bC J X),(bC J X),d⟩)<|s (cA (D J) (fun W=>(bC J W)) (fun W=>(h1t1 W).2) h0t1)<|bk J<|so h▸aQ J J

def RP m{R}(h:zK m=some R):dy aV 57 [tD fS m] (gw R):=by
 refine eu Tryz.func57 J<|a8<|eG J<|bE<|bp<|a8<|eJ v7 J<|bw v7 yK J fun b=>bG v7 aB J<|bp<|a8<|aX 0 w9 J<|dV bS J FQ J (D J) hI<|aX 1 BJ J<|dV bS J FP J (D J) hI<|aX 2 BI J<|dV bS J Mm J (D J) hI<|aX 3 ze J<|dV bS J FO J (D J) hI ?_;refine bp<|bm<|bz w9 sX bS J<|bp<|aA<|a8<|bM J<|aW J<|iX h J (fun h=>?_) (fun h=>?_)
 ·exact av<|s (eh qa RA rq J)<|aX 5 zc J<|dV bS J Mk J (D J) hI<|aX 6 BH J<|bG qa Mj J<|aS<|aF<|aH<|a8<|s (aE (x:=(oY.mk (0:Int) (0:Int) (0:Int) (0:Int) m.Frag (0:Int) (⟨[]⟩:iu) m.Packet m.Err)) v7 J J bo (.head _) (D J))<|s (eh v7 MZ yK J)<|iw h PO (ER _ _) (eb J) fun r h=>bk J<|ba<|so h▸aQ J J
 ·refine gR (bx:=fun x=>q5 m x=some R) (Of:=fun x=>[Z fS 34 b (oY.mk (0:Int) (0:Int) (0:Int) (0:Int) m.Frag m.Sites m.Plan m.Packet m.Err)]) (Gf:=fun x=>[(3,K (M b 0)),(10,bA m.Kind),(16,gw x)]) (fun x h=>?_) (fun tV=>?_)
  ·skip
   refine iX h J (fun h=>?_) (fun h=>?_)
   ·exact av<|s (eh Ks Wc CX J)<|aX 4 zd J<|dV bS J Ml J (D J) hI<|aX 7 zb J<|bG Ks Mi J<|aS<|aF<|aH<|a8<|s (aE (x:=(oY.mk (0:Int) (0:Int) (0:Int) (0:Int) (0:Int) m.Sites m.Plan (⟨(0:Int),(0:Int),(0:Int),(0:Int),(⟨[],false,(0:Int)⟩:mZ)⟩:kW) m.Err)) v7 J J bo (.head _) (D J))<|s (eh v7 MZ yK J)<|iw h PO (ER _ _) (eb J) fun r1 h=>bk J<|ba<|so h▸aQ J J
   ·refine a8<|bM J<|aW J<|iX h J (fun h=>?_) (fun h=>?_)
    ·exact av<|aX 14 za J<|dV yN J Mh J (D J) hI<|aS<|aF<|aH<|a8<|s (aE (x:=(oY.mk (0:Int) (0:Int) (0:Int) (0:Int) m.Frag m.Sites m.Plan m.Packet (0:Int))) v7 J J bo (.head _) (D J))<|s (eh v7 MZ yK J)<|iw h PO (ER _ _) (eb J) fun r2 h=>bk J<|ba<|so h▸aQ J J
    ·exact bD<|aF<|aH<|a8<|s (aE (x:=(oY.mk (0:Int) (0:Int) (0:Int) (0:Int) m.Frag m.Sites m.Plan m.Packet m.Err)) v7 J J bo (.head _) (D J))<|s (eh v7 MZ yK J)<|iw h PO (ER _ _) (eb J) fun r3 h=>bk J<|ba<|so h▸aQ J J
  ·skip
   refine a8<|bM J<|aW J<|iX h J (fun h=>?_) (fun h=>?_)
   ·refine bD ?_;exact bP (tV (m.Kind==(3:Int)) h) (bj J)
   ·refine av<|bM J<|gU J<|aS ?_;exact bP (tV (m.Kind==(4:Int)) h) (bj J)

def RD c{R}(h:oS c=some R):dy aV 81 [bA c] (gw R):=by
 exact eu Tryz.func81 J<|a8<|bE<|bp<|ay J<|s (ij (D J) hI)<|aO J<|bX J (cN J)<|bX J (fun X=>gE (bC J X) hI)<|ka J<|bk J<|so h▸aQ J J

def PB ae f{R}(h:kD ae f=some R):dy aV 129 [nj ae,(ke aV Fs nM (fun(x:Int)=>f x))] (bA R):=by
 refine eu Tryz.func129 J<|a8<|cC<|bp<|bm<|aO J<|cw er J<|s (bU hI)<|bp<|aA<|bt (k:=6) J fun hN=>bV ?_;refine aT (gO (bx:=fun ls i=>(ae.drop i=ls)/\eK f ls i=some R) (Of:=fun _ i=>[]) (Gf:=fun _ i=>[(0,nj ae),(1,(ke aV Fs nM (fun(x:Int)=>f x))),(7,nu ae),(8,bA (i:Int))]) (fun i h=>?_) (fun e tl ih i h=>?_) ae 0 ⟨J,h⟩) (bj J)
 ·obtain⟨V,h⟩:=h
  exact ft V J<|aH<|a8<|fZ<|so h▸aQ J J
 ·obtain⟨V,h⟩:=h
  refine fq V J<|aP<|aA<|ay J<|aW J<|ay J<|aO J<|aO J<|C2 er bS J (eo V) ?_;refine eJ bS J<|bT h fun r q_r h=>s (ko (args:=LR) (res:=xB) (f:=(fun(x:Int)=>f x)) (x:=((e):Int)) (D J) q_r ⟨(D J),d⟩)<|dd h J (fun h=>?_) (fun h=>?_)
  ·exact ay J<|bk J<|fa<|aC<|fa<|so h▸aQ J J
  ·refine bD<|dY V hN J ?_;exact bf (aT (ih (i+1) ⟨dO V,h⟩) (bj J))

def Iz ae f{R}(h:dR ae f=some R):dy aV 83 [nj ae,(ke aV Fs nM (fun(x:Int)=>f x))] (gw R):=by
 exact eu Tryz.func83 J<|a8<|bE<|bp<|ay J<|aO J<|iw h Vy (PB _ _) (eb J) fun r h=>s (gE (D J) hI)<|bk J<|so h▸aQ J J

def Pq k{R}(h:m6 k=some R):dy aV 202 [bA k] (gw R):=by
 exact eu Tryz.func202 J<|a8<|bE<|bp<|ay J<|s (ij (D J) hI)<|aO J<|bX J (cN J)<|bX J (fun X=>jL (bC J X) hI)<|ka J<|bk J<|so h▸aQ J J

def So(b:Nat)(ix:OI) l{R}(h:iK l=some R):bd aV 163 [K (M b 0)] (dM b l ix) (fun _:OI=>gw R.1) (fun j=>dM b R.2 j):=by
 refine bd.of Tryz.func163 J J J fun w0 S0=>?_;refine(show CG _ _ _ [Z (rH bh [(1,an (ix.h 0).1 (ix.h 0).2 l.kinds.length),(2,an (ix.h 1).1 (ix.h 1).2 l.open_.length)]) 168 b l,tip nt 69 (ix.h 0).1 (ix.h 0).2 l.kinds,cM bH 3 (ix.h 1).1 (ix.h 1).2 l.open_] _ from ?_);refine a8<|bE<|bp<|ay J<|aO J<|s (aD (D J))<|aX 3 fX J<|aX 7 pr J<|s (aE (r:=rH bh [(1,an (ix.h 0).1 (ix.h 0).2 l.kinds.length),(2,an (ix.h 1).1 (ix.h 1).2 l.open_.length)]) (x:=l) cF J J (dZ (dJ eD ja)) (.head _) (D J))<|s (aD (D J))<|aX 17 eU J<|d6 (cK cF J (mF (hs' :=[(1,an (ix.h 0).1 (ix.h 0).2 l.kinds.length),(2,an (ix.h 1).1 (ix.h 1).2 l.open_.length)]) qC ⟨.inr ⟨J,J⟩,.inr ⟨J,J⟩,d⟩ J) J (D J) (D J)) fun i=>?_;refine(show RG _ _ _ _ [_,_,_] _ from ?_);refine bp<|ay J<|s (aD (D J))<|aX 3 fX J<|aX 7 pr J<|s (aE (r:=rH bh [(1,an (ix.h 0).1 (ix.h 0).2 l.kinds.length),(2,an (ix.h 1).1 (ix.h 1).2 l.open_.length)]) (x:=({l with result:=l.n.Kinds}:ai)) cF J J (dZ (dJ eD ja)) (.head _) (D J))<|iw h SK (Iz _ _) ⟨(D J),(MU UW fun x y h=>Pq _ h),d⟩ fun r h=>s (fH (D J))<|aW J<|ay J<|aO J<|ah J (cN J)<|ah J (fun X=>aD (bC J X))<|ah J (fun X=>bK (n:=3) fX J (bC J X) J)<|ah J (fun X=>bK (n:=6) tN J (bC J X) J)<|ah J (fun X=>aE (r:=rH bh [(1,an (ix.h 0).1 (ix.h 0).2 l.kinds.length),(2,an (ix.h 1).1 (ix.h 1).2 l.open_.length)]) (x:=({l with result:=l.n.Kinds}:ai)) bS J J (dZ (dJ eD mU)) (.head _) (bC J X)) ?_;refine ah J (fun X=>gE (bC J X) hI)<|cB J<|aO J<|ah J (cN J)<|ah J (fun X=>aD (bC J X))<|ah J (fun X=>bK (n:=3) fX J (bC J X) J)<|ah J (fun X=>bK (n:=6) tN J (bC J X) J)<|ah J (fun X=>aE (r:=rH bh [(1,an (ix.h 0).1 (ix.h 0).2 l.kinds.length),(2,an (ix.h 1).1 (ix.h 1).2 l.open_.length)]) (x:=({l with result:=l.n.Kinds}:ai)) bS J J (dZ (dJ eD mU)) (.head _) (bC J X))<|ah J (fun X=>ij (bC J X) hI)<|cB J<|aO J<|ah J (cN J)<|ah J (fun X=>aD (bC J X))<|ah J (fun X=>bK (n:=3) fX J (bC J X) J)<|ah J (fun X=>bK (n:=7) pr J (bC J X) J)<|ah J (fun X=>aE (r:=rH bh [(1,an (ix.h 0).1 (ix.h 0).2 l.kinds.length),(2,an (ix.h 1).1 (ix.h 1).2 l.open_.length)]) (x:=({l with result:=l.n.Kinds}:ai)) cF J J (dZ (dJ eD ja)) (.head _) (bC J X))<|ah J (ml er J)<|ah J (fun X=>jL (bC J X) hI)<|cB J<|aO J<|ah J (cN J)<|ah J (fun X=>aD (bC J X))<|ah J (fun X=>bK (n:=3) fX J (bC J X) J)<|ah J (fun X=>bK (n:=7) pr J (bC J X) J) ?_;exact ah J (fun X=>aE (r:=rH bh [(1,an (ix.h 0).1 (ix.h 0).2 l.kinds.length),(2,an (ix.h 1).1 (ix.h 1).2 l.open_.length)]) (x:=({l with result:=l.n.Kinds}:ai)) cF J J (dZ (dJ eD ja)) (.head _) (bC J X))<|ah J (ml er J)<|ah J (fun X=>gu (bC J X) hI)<|cB J<|bk J<|aG<|aG<|aG<|so h▸bB J ix J J (fun _ _ h=>h)

def Pp k{R}(h:mp k=some R):dy aV 203 [bA k] (gw R):=by
 exact eu Tryz.func203 J<|a8<|bE<|bp<|ay J<|s (ij (D J) hI)<|aO J<|bX J (cN J)<|bX J (fun X=>jL (bC J X) hI)<|ka J<|bk J<|so h▸aQ J J

def Sn(b:Nat)(ix:OI) l{R}(h:gW l=some R):bd aV 164 [K (M b 0)] (dM b l ix) (fun _:OI=>gw R.1) (fun j=>dM b R.2 j):=by
 refine bd.of Tryz.func164 J J J fun w0 S0=>?_;refine(show CG _ _ _ [Z (rH bh [(1,an (ix.h 0).1 (ix.h 0).2 l.kinds.length),(2,an (ix.h 1).1 (ix.h 1).2 l.open_.length)]) 168 b l,tip nt 69 (ix.h 0).1 (ix.h 0).2 l.kinds,cM bH 3 (ix.h 1).1 (ix.h 1).2 l.open_] _ from ?_);refine a8<|bE<|bp<|ay J<|aO J<|s (aD (D J))<|aX 3 fX J<|aX 7 pr J<|s (aE (r:=rH bh [(1,an (ix.h 0).1 (ix.h 0).2 l.kinds.length),(2,an (ix.h 1).1 (ix.h 1).2 l.open_.length)]) (x:=l) cF J J (dZ (dJ eD ja)) (.head _) (D J))<|s (aD (D J))<|aX 17 eU J<|d6 (cK cF J (mF (hs' :=[(1,an (ix.h 0).1 (ix.h 0).2 l.kinds.length),(2,an (ix.h 1).1 (ix.h 1).2 l.open_.length)]) qC ⟨.inr ⟨J,J⟩,.inr ⟨J,J⟩,d⟩ J) J (D J) (D J)) fun i=>?_;refine(show RG _ _ _ _ [_,_,_] _ from ?_);refine bp<|ay J<|s (aD (D J))<|aX 3 fX J<|aX 7 pr J<|s (aE (r:=rH bh [(1,an (ix.h 0).1 (ix.h 0).2 l.kinds.length),(2,an (ix.h 1).1 (ix.h 1).2 l.open_.length)]) (x:=({l with result:=l.n.Kinds}:ai)) cF J J (dZ (dJ eD ja)) (.head _) (D J))<|iw h SK (Iz _ _) ⟨(D J),(MU UV fun x y h=>Pp _ h),d⟩ fun r h=>s (fH (D J))<|aW J<|ay J<|aO J<|ah J (cN J)<|ah J (fun X=>aD (bC J X))<|ah J (fun X=>bK (n:=3) fX J (bC J X) J)<|ah J (fun X=>bK (n:=6) tN J (bC J X) J)<|ah J (fun X=>aE (r:=rH bh [(1,an (ix.h 0).1 (ix.h 0).2 l.kinds.length),(2,an (ix.h 1).1 (ix.h 1).2 l.open_.length)]) (x:=({l with result:=l.n.Kinds}:ai)) bS J J (dZ (dJ eD mU)) (.head _) (bC J X)) ?_;refine ah J (fun X=>gE (bC J X) hI)<|cB J<|aO J<|ah J (cN J)<|ah J (fun X=>aD (bC J X))<|ah J (fun X=>bK (n:=3) fX J (bC J X) J)<|ah J (fun X=>bK (n:=6) tN J (bC J X) J)<|ah J (fun X=>aE (r:=rH bh [(1,an (ix.h 0).1 (ix.h 0).2 l.kinds.length),(2,an (ix.h 1).1 (ix.h 1).2 l.open_.length)]) (x:=({l with result:=l.n.Kinds}:ai)) bS J J (dZ (dJ eD mU)) (.head _) (bC J X))<|ah J (fun X=>ij (bC J X) hI)<|cB J<|aO J<|ah J (cN J)<|ah J (fun X=>aD (bC J X))<|ah J (fun X=>bK (n:=3) fX J (bC J X) J)<|ah J (fun X=>bK (n:=7) pr J (bC J X) J)<|ah J (fun X=>aE (r:=rH bh [(1,an (ix.h 0).1 (ix.h 0).2 l.kinds.length),(2,an (ix.h 1).1 (ix.h 1).2 l.open_.length)]) (x:=({l with result:=l.n.Kinds}:ai)) cF J J (dZ (dJ eD ja)) (.head _) (bC J X))<|ah J (ml er J)<|ah J (fun X=>jL (bC J X) hI)<|cB J<|aO J<|ah J (cN J)<|ah J (fun X=>aD (bC J X))<|ah J (fun X=>bK (n:=3) fX J (bC J X) J)<|ah J (fun X=>bK (n:=7) pr J (bC J X) J) ?_;exact ah J (fun X=>aE (r:=rH bh [(1,an (ix.h 0).1 (ix.h 0).2 l.kinds.length),(2,an (ix.h 1).1 (ix.h 1).2 l.open_.length)]) (x:=({l with result:=l.n.Kinds}:ai)) cF J J (dZ (dJ eD ja)) (.head _) (bC J X))<|ah J (ml er J)<|ah J (fun X=>gu (bC J X) hI)<|cB J<|bk J<|aG<|aG<|aG<|so h▸bB J ix J J (fun _ _ h=>h)

end Go.Proofs.YtdohlidddcgfjaaGreat

