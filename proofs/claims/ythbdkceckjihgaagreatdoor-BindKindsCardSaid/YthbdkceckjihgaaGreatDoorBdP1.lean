/- cm of this claim: P1. -/
import Derived.Test.YthbdkceckjihgaaGreatDoorBdT
import Derived.Test.YthbdkceckjihgaaGreatDoorBdP0
set_option linter.all false
namespace Go.Proofs.YthbdkceckjihgaaGreatDoor
open Go
set_option maxRecDepth 100000

def TW s f{R}(h:dy s f=some R):de aQ 90 [hM (bb) s,(gn aQ Qj xY (fun(x:ay)=>f x))] (lx R):=by
 exact ec Tryz.func90 I<|bl<|cS<|bX<|aI I<|bo I<|f9 h Wm (RD _ _) (dU I) fun r h=>af (iU (M I) hI)<|a8 I<|so h▸aL I I

def BI s{R}(h:oV s=some R):de aQ 138 [K rS s] (lx R):=by
 refine ec Tryz.func138 I<|bl<|cS<|bX<|aI I<|af (pb (M I) hS)<|bo I<|cL h fun t q_t h=>aM I (d7 I) ?_
 obtain⟨r,h1t,h0t⟩:=og q_t
 have q_rg:=fun H=>(h1t H).1
 exact aM I (fun hg=>bN Iv (va _ (q_rg hg)) ⟨(cC I hg),J⟩)<|af (ef (M I) (fun H=>(cC I (rd H))) (fun H=>(h1t H).2) h0t)<|a8 I<|so h▸aL I I

def Lx s{R}(h:qT s=some R):de aQ 136 [K gc s] (lx R):=by
 refine ec Tryz.func136 I<|bl<|d6 I<|cS<|bX<|bl<|bW JR uW nR I<|f9 h Iv (va _) (dU I) fun r h=>bo I<|cL h fun t q_t h=>aG I (dF JQ uV I I)<|aG I (di nR I I) ?_
 obtain⟨r1,h1t,h0t⟩:=og q_t
 have q_r1g:=fun H=>(h1t H).1
 exact aG I (fun hg=>bN LJ (BI _ (q_r1g hg)) ⟨(cC I hg),J⟩)<|af (cU (M I) (fun H=>(cC I H)) (fun H=>(h1t H).2) h0t)<|a8 I<|so h▸aL I I

def Rn s f{R}(h:fX s f=some R):de aQ 212 [hM (bt) s,(gn aQ Qi xY (fun(x:cy)=>f x))] (aW R):=by
 refine ec Tryz.func212 I<|bl<|cv<|bX<|bv<|bo I<|cR GU I<|af (bL hI)<|bX<|aq<|aY (k:=6) I fun hN=>bO ?_;refine aO (fU (aA:=fun ls i=>(s.drop i=ls)/\dX f ls i=some R) (Of:=fun _ i=>[]) (Gf:=fun _ i=>[(0,hM (bt) s),(1,(gn aQ Qi xY (fun(x:cy)=>f x))),(7,kO s),(8,aW (i:Int))]) (fun i h=>?_) (fun e tl ih i h=>?_) s 0 ⟨I,h⟩) (bu I)
 ·obtain⟨D,h⟩:=h
  exact ea D I<|aJ<|bl<|fN<|so h▸aL I I
 ·obtain⟨D,h⟩:=h
  refine d9 D I<|aN<|aq<|aI I<|bw I<|aI I<|bo I<|bo I<|re GU lr I (ei D) ?_;refine dk lr I<|cL h fun r q_r h=>af (gN (args:=Qi) (res:=G0) (f:=(fun(x:cy)=>f x)) (x:=((e):cy)) (M I) q_r ⟨(M I),J⟩)<|dl h I (fun h=>?_) (fun h=>?_)
  ·exact aI I<|a8 I<|cQ<|ai<|cQ<|so h▸aL I I
  ·refine bT<|dQ D hN I ?_;exact bf (aO (ih (i+1) ⟨dJ D,h⟩) (bu I))

def Rz s f{R}(h:ft s f=some R):de aQ 170 [hM (bt) s,(gn aQ Qi xY (fun(x:cy)=>f x))] (lx R):=by
 exact ec Tryz.func170 I<|bl<|cS<|bX<|aI I<|bo I<|f9 h V4 (Rn _ _) (dU I) fun r h=>af (iU (M I) hI)<|a8 I<|so h▸aL I I

def Rg tag{R}(h:vU tag=some R):de aQ 233 [aW tag] (aW R):=by
 refine ec Tryz.func233 I<|bl<|cv<|bX<|aN<|aq<|aI I<|af (ir (M I) hI)<|bo I<|aM I (d7 I)<|aM I (fun hg=>jA (cC I hg) hI)<|kf I<|bw I<|sm h I (fun h=>?_) (fun h=>?_)
 ·exact bl<|fN<|cQ<|so h▸aL I I
 ·refine aI I<|af (nt (M I) hI)<|bw I<|sm h I (fun h=>?_) (fun h=>?_)
  ·exact bl<|fN<|cQ<|so h▸aL I I
  ·refine aI I<|af (nt (M I) hI)<|bw I<|sm h I (fun h=>?_) (fun h=>?_)
   ·exact bl<|fN<|cQ<|so h▸aL I I
   ·exact bT<|ca<|aJ<|bl<|fN<|so h▸aL I I

def Re v{R}(h:uB v=some R):de aQ 238 [K dH v] (K dH R):=by
 refine ec Tryz.func238 I<|bl<|BJ (M I) I fun b=>aV po qw I fun b1=>bX<|bv<|bF 0 vP I<|af (bz da I I tp (.tail _ (.head _)) (M I))<|bX ?_;refine Fp (aA:=fun v1=>jv v1=some R) (Of:=fun v1=>[bx dH 104 b v1,bx dH 104 b1 IU]) (Gf:=fun v1=>[(1,tV (ak b 0)),(2,tV (ak b1 0))]) (fun v1 h=>?_) (fun tD=>?_)
 ·skip
  exact aJ<|bl<|af (bz po I I cr (.head _) (M I))<|dx<|cn po al I<|aS 2 I<|fR<|aP<|so h▸q9 I po I I I
 ·skip
  refine aN<|aq<|aN<|aq<|aN ?_;refine Fp (aA:=fun v2=>nV v2=some R) (Of:=fun v2=>[bx dH 104 b v2,bx dH 104 b1 IU]) (Gf:=fun v2=>[(1,tV (ak b 0)),(2,tV (ak b1 0))]) (fun v2 h=>?_) (fun K1=>?_)
  ·skip
   refine aJ<|bl<|bF 0 vP I<|lD da I wX I (M I) hI<|bX<|gL<|cd I<|aH<|cd I<|aH<|dP ?_;exact cP (tD (bZ.mk (0:Int) v2.N v2.U v2.S) h) (bu I)
  ·skip
   refine aN ?_;refine NM (aA:=nU v=some R) (Of:=[bx dH 104 b v,bx dH 104 b1 IU]) (Gf:=[(1,tV (ak b 0)),(2,tV (ak b1 0))]) (fun h=>?_) (fun K2=>?_)
   ·skip
    refine aJ<|bd<|bF 1 yO I<|lD UI I Cn I (M I) hI<|bR<|ca ?_;exact cP (K1 (bZ.mk v.Kind (0:Int) v.U v.S) h) (bu I)
   ·skip
    refine aN<|aq<|aN<|bv<|gv I<|bw I<|sm h I (fun h=>?_) (fun h=>?_)
    ·refine gL<|aH<|aH<|dP<|aJ<|bl<|bF 1 yO I<|af (bz UI I I tn (.tail _ (.head _)) (M I))<|iY I<|bo I<|aG I (fun hg=>oy 1 yO I I I)<|aG I (fun hg=>bz UI I I tn (.tail _ (.head _)) (cC I hg))<|aG I (AC I)<|im I<|dl h I (fun h=>?_) (fun h=>?_)
     ·refine gL<|cd I<|aH<|cd I<|aH<|cd I<|aH<|cd I<|aH<|dP<|d5 ?_;exact cP (tD v h) (bu I)
     ·refine bT<|ca<|d5 ?_;exact cP (K2 h) (bu I)
    ·refine lW<|bv<|gv I<|bw I<|sm h I (fun h=>?_) (fun h=>?_)
     ·refine gL<|aH<|aH<|cd I<|aH<|dP<|d5 ?_;exact cP (K2 h) (bu I)
     ·refine lW<|bv<|gv I<|bw I<|sm h I (fun h=>?_) (fun h=>?_)
      ·refine gL<|aH<|aH<|cd I<|aH<|cd I<|aH<|dP<|d5 ?_;exact cP (K1 v h) (bu I)
      ·refine lW<|bv<|gv I<|bw I<|sm h I (fun h=>?_) (fun h=>?_)
       ·refine gL<|aH<|aH<|cd I<|aH<|cd I<|aH<|cd I<|aH<|dP<|aJ ?_;refine lF (aA:=fun v3=>nT v3=some R) (Of:=fun v3=>[bx dH 104 b v3,bx dH 104 b1 IU]) (Gf:=fun v3=>[(1,tV (ak b 0)),(2,tV (ak b1 0))]) (fun v3 h=>?_) (fun K3=>?_)
        ·skip
         refine gL<|cd I<|aH<|dP ?_;exact cP (tD v3 h) (bu I)
        ·skip
         refine bl<|bF 3 vO I<|af (bz nR I I qN (.tail _ (.head _)) (M I))<|af (vG hY (M I))<|af (nt (M I) hI)<|dl h I (fun h=>?_) (fun h=>?_)
         ·refine bd<|bF 0 vP I<|dx<|lD da I wX I (M I) hI<|bF 3 vO I<|lD nR I Cm I (M I) hS<|bR ?_;exact cP (K3 (bZ.mk (0:Int) v.N v.U ([])) h) (bu I)
         ·refine bT<|d5 ?_;exact cP (K3 v h) (bu I)
       ·refine lW<|bl<|gv I<|bw I<|sm h I (fun h=>?_) (fun h=>?_)
        ·refine gL<|aH<|cd I<|aH<|cd I<|aH<|cd I<|aH<|cd I<|aH<|dP<|aJ<|bl<|bF 0 vP I<|dx<|lD da I wX I (M I) hI<|bF 1 yO I<|lD UI I Cn I (M I) hI<|bF 2 Q0 I<|lD So I I9 I (M I) hI<|bX<|gL ?_;refine dP ?_;exact cP (tD (bZ.mk (0:Int) (0:Int) (0:Int) v.S) h) (bu I)
        ·refine lW<|gL<|cd I<|aH<|cd I<|aH<|cd I<|aH<|cd I<|aH<|cd I<|aH<|dP<|d5 ?_;exact cP (tD v h) (bu I)

def Ri v{R}(h:rf v=some R):de aQ 221 [K dH v] (aW R):=by
 refine ec Tryz.func221 I<|bl<|d6 I<|cv<|bX<|bv<|dk po I<|f9 h VV (Re _) (dU I) fun r h=>af (co po Lm qw I)<|af (BB LD (M I) (M I))<|dl h I (fun h=>?_) (fun h=>?_)
 ·exact bl<|fN<|ai<|so h▸aL I I
 ·exact lW<|bl<|fN<|so h▸aL I I

def Lv v{R}(h:pm v=some R):de aQ 189 [K dH v] (lx R):=by
 exact ec Tryz.func189 I<|bl<|d6 I<|cS<|bX<|bl<|dk po I<|f9 h VZ (Ri _) (dU I) fun r h=>gv I<|bo I<|aG I (dF vP tp I I)<|aG I (di da I I)<|aG I (AC I)<|im I<|a8 I<|so h▸aL I I

def Rd s{R}(h:vm s=some R):de aQ 243 [K rS s] (lx R):=by
 refine ec Tryz.func243 I<|bl<|cS<|bX<|bv<|bo I<|af (vG hY (M I))<|af (bL hI)<|bX<|aq<|bO ?_;refine aO (LV (aA:=fun n x=>mz s n x=some R) (Of:=fun x=>[]) (Gf:=fun x=>[(0,K rS s),(5,kO s),(6,aW x)]) (fun x h=>nn h) (fun n ih x h=>?_) nA (0:Int) h) (bu I);refine gJ<|bl<|B0 I<|bX<|aN<|sm h I (fun h=>?_) (fun h=>?_)
 ·refine lW<|aN<|aq<|aI I<|bw I<|aI I<|bo I<|cL h fun b q_b h=>af (zN hY (M I) (M I) q_b)<|af (ir (M I) hI)<|bo I<|cL h fun t q_t h=>aM I (d7 I)<|aM I (d7 I) ?_
  obtain⟨b1,h1t,h0t⟩:=og q_t
  have q_b1g:=fun H=>(h1t H).1
  refine aM I (fun hg=>zN hY (cC I hg) (cC I hg) (q_b1g hg))<|aM I (fun hg=>jA (cC I hg) hI)<|af (ef (M I) (fun H=>(cC I (rd H))) (fun H=>(h1t H).2) h0t)<|dl h I (fun h=>?_) (fun h=>?_)
  ·exact bl<|cS<|fR<|cQ<|ai<|cQ<|so h▸aL I I
  ·refine bT<|ca<|aJ<|bd<|af (oM (M I) hI)<|bo I<|bR ?_;exact bf (aO (ih (IntKind.i64.wrap (x+(1:Int))) h) (bu I))
 ·exact gL<|aH<|aH<|dP<|aJ<|bl<|cS<|fR<|so h▸aL I I

def Rf n{R}(h:tN n=some R):de aQ 234 [K cz n] (lx R):=by
 refine ec Tryz.func234 I<|bl<|d6 I<|cS<|bX<|aN ?_
 refine lU (ts:=[_,_,_,_,_,_,_,_,_,_,_,_,_,_]) mixed I I
  ⟨AA 1 I I (wP vM sL I I),
  ⟨zp 0 nR I I,
  ⟨ly 6 1 I I (BA (M I) hS),
  ⟨ly 7 2 I I (jr I),
  ⟨L4 1 8 3 I I I (tU I I I I (fun hg=>wP tB qk I I)),
  ⟨A9 9 4 8 3 I I I (tU I I I I (fun hg=>nc nR I I (cC I hg))),
  ⟨A9 10 5 8 3 I I I (tU I I I I (fun hg=>BA (cC I hg) hS)),
  ⟨nP 8 3 11 6 I I I (zpo I I),
  ⟨AA 1 I I (wP rC nK I I),
  ⟨zp 8 po I I,
  ⟨zd0 I (co po Lm qw I),
  ⟨nP 14 9 15 10 I I I (BB LD (M I) (M I)),
  ⟨ly 12 7 I I (DN I),
  ⟨ly 16 11 I I (DN I),
  J⟩⟩⟩⟩⟩⟩⟩⟩⟩⟩⟩⟩⟩⟩ ?_
 refine aJ<|bv<|bW rD nL da I<|bX<|aq<|bl<|gv I<|bw I<|sm h I (fun h=>?_) (fun h=>?_)
 ·refine aI I<|af (mT (M I))<|bo I<|cL h fun t q_t h=>aG I (dF rC nK I I)<|aG I (di po I I) ?_
  obtain⟨r,h1t,h0t⟩:=og q_t
  have q_rg:=fun H=>(h1t H).1
  refine aG I (fun hg=>bN SC (Lv _ (q_rg hg)) ⟨(cC I hg),J⟩)<|af (cU (M I) (fun H=>(cC I H)) (fun H=>(h1t H).2) h0t)<|bo I<|aG I (dF rC nK I I)<|aG I (fun hg=>jV yO I tn I (cC I hg))<|aG I (di UI I I)<|aG I (fun hg=>iU (cC I hg) hI)<|im I<|bo I<|cL h fun t1 q_t1 h=>aG I (dF rC nK I I)<|aG I (fun hg=>jV vO I qN I (cC I hg))<|aG I (di nR I I) ?_
  obtain⟨r1,h1t1,h0t1⟩:=og q_t1
  have q_r1g:=fun H=>(h1t1 H).1
  exact aG I (fun hg=>bN VU (Rd _ (q_r1g hg)) ⟨(cC I hg),J⟩)<|af (cU (M I) (fun H=>(cC I H)) (fun H=>(h1t1 H).2) h0t1)<|a8 I<|cQ<|so h▸aL I I
 ·refine bl<|gv I<|bw I<|sm h I (fun h=>?_) (fun h=>?_)
  ·refine aI I<|af (mT (M I))<|bo I<|cL h fun t2 q_t2 h=>aG I (dF tB qk I I)<|aG I (di nR I I) ?_
   obtain⟨r2,h1t2,h0t2⟩:=og q_t2
   have q_r2g:=fun H=>(h1t2 H).1
   refine aG I (fun hg=>bN Iv (va _ (q_r2g hg)) ⟨(cC I hg),J⟩)<|af (cU (M I) (fun H=>(cC I H)) (fun H=>(h1t2 H).2) h0t2)<|bo I<|cL h fun t3 q_t3 h=>aG I (dF vM sL I I)<|aG I (di nR I I) ?_
   obtain⟨r3,h1t3,h0t3⟩:=og q_t3
   have q_r3g:=fun H=>(h1t3 H).1
   exact aG I (fun hg=>bN LJ (BI _ (q_r3g hg)) ⟨(cC I hg),J⟩)<|af (cU (M I) (fun H=>(cC I H)) (fun H=>(h1t3 H).2) h0t3)<|a8 I<|cQ<|so h▸aL I I
  ·exact bT<|ca<|aJ<|aI I<|af (mT (M I))<|bo I<|aG I (d7 I)<|aG I (uA I)<|im I<|a8 I<|so h▸aL I I

def Rm t{R}(h:Ak t=some R):de aQ 213 [K bt t] (tT [hM (fC) R.1,lx R.2]):=by
 refine ec Tryz.func213 I<|bl<|d6 I<|sx (fC)<|cS<|bX<|bl<|cu false fC 300<|af (ck zR)<|bX<|bl<|cu false Q 3<|af (ck zR)<|bX<|bv<|sw oS kB I ?_;refine dk zt I<|cR sr I<|af (bL hI)<|bX<|aq<|aY (k:=15) I fun hN=>bO<|gZ ?_;refine aO (DE (aA:=fun ls i all l c open1 l1 c1=>(t.Nodes.drop i=ls)/\lk ls i all open1=some R) (Of:=fun _ i all l c open1 l1 c1=>[fq fC 300 l c all,fq Q 3 l1 c1 open1]) (Gf:=fun _ i all l c open1 l1 c1=>[(4,rW l c all),(5,rW l1 c1 open1),(15,hM (cz) t.Nodes),(16,kO t.Nodes),(17,aW (i:Int))]) (fun i all l c open1 l1 c1 h=>?_) (fun e tl ih i all l c open1 l1 c1 h=>?_) t.Nodes 0 ([]:List jI) none 0 xZ none 0 ⟨I,h⟩) (bu I)
 ·obtain⟨D,h⟩:=h
  refine ea D I<|aJ<|aN<|cL h fun t1 q_t1 h=>?_
  obtain⟨e1,h1t1,h0t1⟩:=og q_t1
  have q_e1g:=fun H=>(h1t1 H).1
  refine lU (ts:=[_,_,_,_,_,_,_,_,_,_,_,_,_,_,_,_,_,_,_,_,_]) mixed I I
   ⟨oz I I,
   ⟨oz I I,
   ⟨ly 105 1 I I (fW f8 (.tail _ (.head _)) (M I)),
   ⟨ly 106 2 I I (zei I),
   ⟨ly 107 3 I I (jr I),
   ⟨L4 4 108 4 I I I (q0 I I I I (fun hg=>jr I)),
   ⟨A9 109 5 108 4 I I I (q0 I I I I (fun hg=>fW Az (.head _) (cC I hg))),
   ⟨A9 110 6 108 4 I I I (q0 I I I I (fun hg=>nt (cC I hg) hI)),
   ⟨nP 108 4 111 7 I I I (zpa I I),
   ⟨ly 112 8 I I (jr I),
   ⟨L4 4 113 9 I I I (q0 I I I I (fun hg=>jr I)),
   ⟨L4 4 113 9 I I I (q0 I I I I (fun hg=>jr I)),
   ⟨A9 115 11 113 9 I I I (q0 I I I I (fun hg=>fW Az (.head _) (cC I hg))),
   ⟨A9 116 12 113 9 I I I (q0 I I I I (fun hg=>nr (cC I hg) hI)),
   ⟨Sh 114 10 117 13 113 9 I I I I (q0 I I I I (fun hg=>bU Az wp (.head _) (cC I hg) (cC I hg) (q_e1g hg))),
   ⟨A9 118 14 113 9 I I I (q0 I I I I (fun hg=>cM (o:=(IntKind.i64.wrap ((all.length:Int)-(1:Int))).toNat*2+0) (n:=(IntKind.i64.wrap ((all.length:Int)-(1:Int))).toNat*2+1) yK I (.head _) (q_e1g hg) (cC I hg) I)),
   ⟨A9 119 15 113 9 I I I (q0 I I I I (fun hg=>dd (r:=fC) (i:=(IntKind.i64.wrap ((all.length:Int)-(1:Int)))) (foff:=1) da I I tm I (.head _) (q_e1g hg) (cC I hg))),
   ⟨A9 120 16 113 9 I I I (q0 I I I I (fun hg=>nt (cC I hg) hI)),
   ⟨nP 113 9 121 17 I I I (cU (M I) (fun H=>(cC I H)) (fun H=>(h1t1 H).2) h0t1),
   ⟨ly 104 0 I I (DN I),
   ⟨ly 122 18 I I (DN I),
   J⟩⟩⟩⟩⟩⟩⟩⟩⟩⟩⟩⟩⟩⟩⟩⟩⟩⟩⟩⟩⟩ ?_
  exact aJ<|xH<|qp<|jd 4 I<|jd 104 I<|jd 2 I<|lG 2 I<|aP<|aP<|so h▸eC I I I
 ·obtain⟨D,h⟩:=h
  refine d9 D I<|aN<|aq<|aI I<|gp sr oB I (ei D)<|aV oB Bs I fun b=>j3 I<|cn oB al I<|aS 7 I<|bX<|aN ?_;refine bd<|bW rD nL da I<|f9 h VY (Rg _) (dU I) fun r h=>bw I<|bv<|bo I<|af (ir (M I) hI)<|bo I<|aM I (d7 I)<|aM I (d7 I)<|aM I (fun hg=>fW f8 (.tail _ (.head _)) (cC I hg))<|aM I (fun hg=>jA (cC I hg) (cC I hg))<|kf I<|bo I<|cL h fun t2 q_t2 h=>aM I (fun hg=>sX oB I I) ?_
  obtain⟨r1,h1t2,h0t2⟩:=og q_t2
  have q_r1g:=fun H=>(h1t2 H).1
  refine aM I (fun hg=>bN VX (Rf _ (q_r1g hg)) ⟨(cC I hg),J⟩)<|aM I (uA I)<|af (ef (M I) (fun H=>(cC I (rd H))) (fun H=>(h1t2 H).2) h0t2)<|dl h I (fun h=>?_) (fun h=>?_)
  ·exact bl<|sx (fC)<|cS<|fR<|ai<|cQ<|ai<|cQ<|aP<|aP<|so h▸eC I I I
  ·refine lW<|aI I<|bo I<|af (fW f8 (.tail _ (.head _)) (M I))<|bo I<|af (nr (M I) (M I))<|cL h fun y q_y h=>af (pt f8 da I (.tail _ (.head _)) (M I) (M I) q_y)<|ou (.tail _ (.head _)) q_y fun hv=>bw I<|bl<|iz (r:=Q) (ys:=[j4,j4]) (xs:=[.const (.int .i64 (-1)),.const (.int .i64 (-1))]) f8 da I I I I I ⟨hI,hI,J⟩ I fun l2 c2=>bw I<|aI I ?_;refine bo I<|cL h fun cp q_cp h=>mW (J1 (.tail _ (.tail _ (.head _))) q_y f8 (Qq da) (M I) (M I) (so q_cp)) I fun i1=>?_;refine(show RG _ _ _ _ [_,_,_] ((47,aW ((min y.length ([j4,j4]).length:Nat):Int))::_)from ?_);refine iM (Dk (so q_cp)) 44 I<|iM (Dk (so q_cp)) 10 I<|iM (Dk (so q_cp)) 45 I<|bX<|aN<|aN<|cL h fun e2 q_e2 h=>cL h fun t3 q_t3 h=>?_
   obtain⟨e3,h1t3,h0t3⟩:=og q_t3
   have q_e3g:=fun H=>(h1t3 H).1
   refine lU (ts:=[_,_,_,_,_,_,_,_,_,_,_,_,_,_]) mixed I I
    ⟨AA 7 I I (wP Lr E3 I I),
    ⟨zp 0 da I I,
    ⟨oz I I,
    ⟨ly 50 2 I I (bU f8 da (.head _) (M I) hI q_e2),
    ⟨ly 51 3 I I (dd (r:=Q) (i:=(0:Int)) (foff:=0) da I I cr I (.head _) q_e2 (M I)),
    ⟨nP 49 1 52 4 I I I (jh (M I) (M I)),
    ⟨ly 53 5 I I (jr I),
    ⟨L4 7 54 6 I I I (tU I I I I (fun hg=>wP Lq E2 I I)),
    ⟨A9 55 7 54 6 I I I (tU I I I I (fun hg=>nc da I I (cC I hg))),
    ⟨L4 10 54 6 I I I (tU I I I I (fun hg=>jr I)),
    ⟨A9 57 9 54 6 I I I (tU I I I I (fun hg=>bU f8 da (.head _) (cC I hg) hI (q_e3g hg))),
    ⟨A9 58 10 54 6 I I I (tU I I I I (fun hg=>dd (r:=Q) (i:=(1:Int)) (foff:=0) da I I cr I (.head _) (q_e3g hg) (cC I hg))),
    ⟨Sh 56 8 59 11 54 6 I I I I (tU I I I I (fun hg=>jh (cC I hg) (cC I hg))),
    ⟨nP 54 6 60 12 I I I (ef (M I) (fun H=>(cC I (rd H))) (fun H=>(h1t3 H).2) h0t3),
    J⟩⟩⟩⟩⟩⟩⟩⟩⟩⟩⟩⟩⟩⟩ ?_
   refine aJ<|sm h I (fun h=>?_) (fun h=>?_)
   ·exact bl<|sx (fC)<|cS<|fR<|ai<|cQ<|ai<|cQ<|aP<|aP<|aP<|so h▸eC I I I
   ·refine lW<|aI I<|af (co (y:=(⟨(i:Int),(1:Int)⟩:jI)) wp Vt GY (⟨_,_,_,_,_,I,Cl,I,(M I),⟨_,_,_,_,_,I,Ck,I,hI,I⟩⟩))<|aV wp GY I fun b1=>cn wp al I<|bX<|bv<|bo I<|af (K6 f8 (.tail _ (.tail _ (.tail _ (.head _)))) q_y (M I))<|af (bL hI)<|bX<|aq ?_
    have hN1:=hv.2
    refine bO<|gZ<|zc<|lE<|lE ?_;refine aO (jc (aA:=fun ls1 i2 b2=>(y.drop i2=ls1)/\mO (lk tl) i all open1 r ls1 b2=some R) (Of:=fun _ i2 b2=>[fq fC 300 l c all,fq Q 3 l1 c1 open1,bx fC 300 b1 b2]) (Gf:=fun _ i2 b2=>[(4,rW l c all),(5,rW l1 c1 open1),(6,aW (i:Int)),(8,aW r),(11,tV (ak b1 0)),(15,hM (cz) t.Nodes),(16,kO t.Nodes),(17,aW (i:Int)),(64,tV (lV 1 l1 c1 (IntKind.i64.wrap ((open1.length:Int)-r)).toNat y.length)),(65,kO y),(66,aW (i2:Int))]) (fun i2 b2 h=>?_) (fun e4 tl1 ih1 i2 b2 h=>?_) y 0 (⟨(i:Int),(1:Int)⟩:jI) ⟨I,h⟩) (bu I)
    ·obtain⟨hx1,h⟩:=h
     refine ea hx1 I<|aJ<|aI I<|af (bz wp I I cr (.tail _ (.tail _ (.head _))) (M I))<|af (aZ (r:=fC) (ys:=[b2]) (xs:=[.tmp 91]) Az wp I I I I I ⟨(M I),J⟩)<|cL h fun all1 q_all1 h=>ev wp I I I I Az I I (M I) (M I) q_all1 fun l3 c3=>bw I<|bd ?_;refine bo I<|bo I<|af (fW f8 (.tail _ (.head _)) (M I))<|bo I<|af (nr (M I) (M I))<|cL h fun y1 q_y1 h=>af (ro f8 da I (.tail _ (.head _)) (M I) (M I) q_y1)<|bo I<|af (aZ (r:=Q) (ys:=[(i:Int)]) (xs:=[.tmp 100]) f8 da I I I I I ⟨(M I),J⟩)<|dx<|GJ q_y1<|cL h fun open2 q_open2 h=>ev da I I I I f8 I I (M I) (M I) q_open2 fun l4 c4=>j3 I<|bR<|dQ D hN I<|iO<|aP<|d5 ?_;exact bf (aO (ih (i+1) all1 l3 c3 open2 l4 c4 ⟨dJ D,h⟩) (bu I))
    ·obtain⟨hx1,h⟩:=h
     refine d9 hx1 I<|aN<|aq<|bl<|af (wy f8 da I (.tail _ (.head _)) q_y (M I) (M I) (ei hx1))<|af (dd (r:=Q) (i:=((IntKind.i64.wrap ((open1.length:Int)-r))+(i2:Int))) (foff:=0) da I I cr I (.tail _ (.head _)) (wV q_y (ei hx1)).1 (M I))<|bw I<|cL h fun e5 q_e5 h=>?_
     refine fm 19 [tc (tV (ak b1 0)),tc (aW b2.first),tc (rW l c all),tc (aW e4),tc (tV (cK l (e4.toNat*2+0))),tc (tV (cK l (e4.toNat*2+0))),tc (aW e5.first),tc (aW (min b2.first e5.first)),tc (tV (ak b1 1)),tc (aW b2.depth),tc (rW l c all),tc (aW e4),tc (tV (cK l (e4.toNat*2+0))),tc (tV (cK l (e4.toNat*2+1))),tc (aW e5.depth),tc (aW (IntKind.i64.wrap (e5.depth+(1:Int)))),tc (aW (max b2.depth (IntKind.i64.wrap (e5.depth+(1:Int))))),tc (tV (ak b1 0)),tc (rY)] [false,false,false,false,false,false,false,false,false,false,false,false,false,false,false,false,false,false,true] [fun _=>[fq fC 300 l c all,fq Q 3 l1 c1 open1,bx fC 300 b1 b2],fun sg=>[bx fC 300 b1 ({b2 with first:=(min b2.first e5.first)}:jI),fq fC 300 l c all,fq Q 3 l1 c1 open1]] I mixed I I I I I
      ⟨⟨[⟨11,fun _=>tV (ak b1 0),none⟩],_,0,0,I,⟨(fun _=>I),J⟩,I,I,I,I,I,fun _ sg _ _=>aE I (oy 0 Gk I I I)⟩,
      ⟨⟨[⟨70,fun _=>tV (ak b1 0),some 0⟩],_,0,0,I,⟨(fun _=>I),J⟩,I,I,I,I,I,eY (fun sg=>aE I (bz da I I C0 (.tail _ (.tail _ (.head _))) (M I)))⟩,
      ⟨⟨[⟨4,fun _=>tV (Y l c all.length),none⟩],_,0,0,I,⟨(fun _=>I),J⟩,I,I,I,I,I,fun _ sg _ _=>aE I (jr I)⟩,
      ⟨⟨[⟨13,fun _=>K Q e4,none⟩],_,0,0,I,⟨(fun _=>I),J⟩,I,I,I,I,I,fun _ sg _ _=>aE I (jr I)⟩,
      ⟨⟨[⟨72,fun _=>tV (Y l c all.length),some 2⟩,⟨73,fun _=>K Q e4,some 3⟩],_,0,0,I,⟨(fun _=>I),(fun _=>I),J⟩,I,I,I,I,I,eY (fun sg=>aE I (bU Az wp (.head _) (M I) (M I) q_e5))⟩,
      ⟨⟨[⟨74,fun _=>tV (cK l (e4.toNat*2+0)),some 4⟩],_,0,0,I,⟨(fun _=>I),J⟩,I,I,I,I,I,eY (fun sg=>aE I (cM (o:=e4.toNat*2+0) (n:=e4.toNat*2+0) Gk I (.head _) q_e5 (M I) I))⟩,
      ⟨⟨[⟨75,fun _=>tV (cK l (e4.toNat*2+0)),some 5⟩],_,0,0,I,⟨(fun _=>I),J⟩,I,I,I,I,I,eY (fun sg=>aE I (dd (r:=fC) (i:=e4) (foff:=0) da I I C0 I (.head _) q_e5 (M I)))⟩,
      ⟨⟨[⟨71,fun _=>K Q b2.first,some 1⟩,⟨76,fun _=>K Q e5.first,some 6⟩],_,0,0,I,⟨(fun _=>I),(fun _=>I),J⟩,I,I,I,I,I,fun _ sg _ _=>aE I (lN (M I) (M I))⟩,
      ⟨⟨[⟨11,fun _=>tV (ak b1 0),none⟩],_,0,0,I,⟨(fun _=>I),J⟩,I,I,I,I,I,fun _ sg _ _=>aE I (oy 1 yK I I I)⟩,
      ⟨⟨[⟨78,fun _=>tV (ak b1 1),some 8⟩],_,0,0,I,⟨(fun _=>I),J⟩,I,I,I,I,I,eY (fun sg=>aE I (bz da I I tm (.tail _ (.tail _ (.head _))) (M I)))⟩,
      ⟨⟨[⟨4,fun _=>tV (Y l c all.length),none⟩],_,0,1,I,⟨(fun _=>I),J⟩,I,I,I,I,I,fun _ sg _ _=>aE I (jr I)⟩,
      ⟨⟨[⟨13,fun _=>K Q e4,none⟩],_,0,1,I,⟨(fun _=>I),J⟩,I,I,I,I,I,fun _ sg _ _=>aE I (jr I)⟩,
      ⟨⟨[⟨80,fun _=>tV (Y l c all.length),some 10⟩,⟨81,fun _=>K Q e4,some 11⟩],_,0,1,I,⟨(fun _=>I),(fun _=>I),J⟩,I,I,I,I,I,qx (fun sg=>aE I (bU Az wp (.head _) (M I) (M I) q_e5)) (eY (fun sg=>aE I (bU Az wp (.tail _ (.head _)) (M I) (M I) q_e5)))⟩,
      ⟨⟨[⟨82,fun _=>tV (cK l (e4.toNat*2+0)),some 12⟩],_,0,1,I,⟨(fun _=>I),J⟩,I,I,I,I,I,qx (fun sg=>aE I (cM (o:=e4.toNat*2+0) (n:=e4.toNat*2+1) yK I (.head _) q_e5 (M I) I)) (eY (fun sg=>aE I (cM (o:=e4.toNat*2+0) (n:=e4.toNat*2+1) yK I (.tail _ (.head _)) q_e5 (M I) I)))⟩,
      ⟨⟨[⟨83,fun _=>tV (cK l (e4.toNat*2+1)),some 13⟩],_,0,1,I,⟨(fun _=>I),J⟩,I,I,I,I,I,qx (fun sg=>aE I (dd (r:=fC) (i:=e4) (foff:=1) da I I tm I (.head _) q_e5 (M I))) (eY (fun sg=>aE I (dd (r:=fC) (i:=e4) (foff:=1) da I I tm I (.tail _ (.head _)) q_e5 (M I))))⟩,
      ⟨⟨[⟨84,fun _=>K Q e5.depth,some 14⟩],_,0,1,I,⟨(fun _=>I),J⟩,I,I,I,I,I,fun _ sg _ _=>aE I (oM (M I) hI)⟩,
      ⟨⟨[⟨79,fun _=>K Q b2.depth,some 9⟩,⟨85,fun _=>K Q (IntKind.i64.wrap (e5.depth+(1:Int))),some 15⟩],_,0,1,I,⟨(fun _=>I),(fun _=>I),J⟩,I,I,I,I,I,fun _ sg _ _=>aE I (F1 (M I) (M I))⟩,
      ⟨⟨[⟨11,fun _=>tV (ak b1 0),none⟩],_,0,0,I,⟨(fun _=>I),J⟩,I,I,I,I,I,fun _ sg _ _=>aE I (oy 0 Gk I I I)⟩,
      ⟨⟨[⟨87,fun _=>tV (ak b1 0),some 17⟩,⟨77,fun _=>K Q (min b2.first e5.first),some 7⟩],_,I,⟨(fun _=>I),(fun _=>I),J⟩,I,I,I,fun sg=>bJ I (EffOK.fr2 (dB da I (uI Cl) I (M I) (M I)))⟩,
      J⟩⟩⟩⟩⟩⟩⟩⟩⟩⟩⟩⟩⟩⟩⟩⟩⟩⟩⟩ (fun sg=>?_)
     refine(show RG _ _ _ _ [_,_,_] _ from ?_);refine bF 1 yK I<|cn da Ck I<|bR<|dQ hx1 hN1 I<|iO<|iO ?_;exact bf (aO (ih1 (i2+1) (jI.mk ({b2 with first:=(min b2.first e5.first)}:jI).first (max b2.depth (IntKind.i64.wrap (e5.depth+(1:Int))))) ⟨dJ hx1,h⟩) (bu I))

end Go.Proofs.YthbdkceckjihgaaGreatDoor

