/- cm of this claim: P21. -/
import Derived.Test.YthbdkceckjihgaaGreatDoorBdT
import Derived.Test.YthbdkceckjihgaaGreatDoorBdP20
set_option linter.all false
namespace Go.Proofs.YthbdkceckjihgaaGreatDoor
open Go
set_option maxRecDepth 100000

def Ud s f{R}(h:gm s f=some R):de aQ 56 [qq s,(gn aQ Qg xY (fun(x:Int)=>f x))] (lx R):=by
 exact ec Tryz.func56 I<|bl<|cS<|bX<|aI I<|bo I<|f9 h WB (RQ _ _) (dU I) fun r h=>af (iU (M I) hI)<|a8 I<|so h▸aL I I

def Uc c t{R}(h:oo c t=some R):de aQ 57 [aW t,aU bq c] (lx R):=by
 exact ec Tryz.func57 I<|bl<|cS<|bX<|aI I<|af (ir (M I) hI)<|bo I<|aM I (d7 I)<|aM I (dF pR jl I I)<|aM I (di zu I I)<|aM I (lZ sS I)<|aM I (fun hg=>iU (cC I hg) (cC I hg))<|kf I<|a8 I<|so h▸aL I I

def Q5 c tables{R}(h:qS c tables=some R):jG aQ 58 [K bq c,qq tables] false Q 3 R:=by
 refine jG.of Tryz.func58 I I I fun w0 S0=>bl<|d6 I<|cu false Q 3<|af (ck zR)<|bX<|bl<|cu false Q 3<|af (ck zR)<|bX<|bv<|bo I<|cR f8 I<|af (bL hI)<|bX<|aq<|aY (k:=10) I fun hN=>?_;refine bO<|gZ<|zc ?_;refine aO (mC (aA:=fun ls i out l c1=>(tables.drop i=ls)/\gu c ls out=some R) (Of:=fun _ i out l c1=>[fq Q 3 l c1 out]) (Gf:=fun _ i out l c1=>[(2,aU bq c),(5,rW l c1 out),(10,qq tables),(11,kO tables),(12,aW (i:Int))]) (fun i out l c1 h=>?_) (fun e tl ih i out l c1 h=>?_) tables 0 xZ none 0 ⟨I,h⟩) (bu I)
 ·obtain⟨D,h⟩:=h
  exact ea D I<|aJ<|aI I<|a8 I<|so h▸ni I I
 ·obtain⟨D,h⟩:=h
  refine d9 D I<|aN<|aq<|bl<|gp f8 da I (ei D)<|bw I<|bl<|bW pR jl zu I<|bo I ?_;refine cL h fun e1 q_e1 h=>re sS lL I q_e1<|bW pd kX wq I<|cR ra I<|af (bL hI)<|bX<|aq<|aY (k:=21) I fun hN1=>bO ?_;refine aO (mC (aA:=fun ls1 i1 out1 l1 c2=>(e1.Columns.drop i1=ls1)/\jp (gu c tl) ls1 out1=some R) (Of:=fun _ i1 out1 l1 c2=>[fq Q 3 l1 c2 out1]) (Gf:=fun _ i1 out1 l1 c2=>[(2,aU bq c),(5,rW l1 c2 out1),(10,qq tables),(11,kO tables),(12,aW (i:Int)),(21,hM (cj) e1.Columns),(22,kO e1.Columns),(23,aW (i1:Int))]) (fun i1 out1 l1 c2 h=>?_) (fun e2 tl1 ih1 i1 out1 l1 c2 h=>?_) e1.Columns 0 out l c1 ⟨I,h⟩) (bu I)
  ·obtain⟨hx1,h⟩:=h
   refine ea hx1 I<|dQ D hN I ?_;exact bf (aO (ih (i+1) out1 l1 c2 ⟨dJ D,h⟩) (bu I))
  ·obtain⟨hx1,h⟩:=h
   refine d9 hx1 I<|aN<|aq<|bl<|gp ra kg I (ei hx1)<|aV kg nC I fun b=>cn kg al I<|aS 9 I<|bX<|bd<|bo I<|sw Gn u0 I ?_;refine dk da I<|af (aZ (r:=Q) (ys:=[e2.Kind]) (xs:=[.tmp 29]) f8 da I I I I I ⟨(M I),J⟩)<|cL h fun out2 q_out2 h=>ev da I I I I f8 I I (M I) (M I) q_out2 fun l2 c3=>j3 I<|bR<|dQ hx1 hN1 I ?_;exact bf (aO (ih1 (i1+1) out2 l2 c3 ⟨dJ hx1,h⟩) (bu I))
def Pk c tables{R}(h:li c tables=some R):de aQ 17 [K bq c,qq tables] (tT [qq R.1,aW R.2]):=by
 refine ec Tryz.func17 I<|bl<|d6 I<|sx Q<|cv<|bX<|bv<|dk pn I<|f9 h VS (Pi _) (dU I) fun r h=>bw I<|aI I<|iY I<|dl h I (fun h=>?_) (fun h=>?_)
 ·exact aI I<|sx Q<|a8 I<|ai<|so h▸eC I I I
 ·refine lW<|bv<|bo I<|af ((show bM _ _ _ _ ((gn aQ Qg xY (fun(x:Int)=>(oo c) x)))from mg (cts:=[aU bq c]) (caps:=[.tmp 2]) XQ ⟨(M I),J⟩ (fun x y h=>Uc _ _ h)))<|f9 h XR (Ud _ _) (dU I) fun r1 h=>dl h I (fun h=>?_) (fun h=>?_)
  ·exact bl<|sx Q<|fN<|ai<|so h▸eC I I I
  ·exact lW<|bl<|dk pn I<|bo I<|KI h XP (Q5 _ _) (dU I) fun r2 h l c1=>j3 I<|fN<|qp<|jd 4 I<|jd 17 I<|lG 4 I<|aP<|so h▸eC I I I

def JT e kinds{R}(h:nJ e kinds=some R):de aQ 18 [K ae e,qq kinds] (lx R):=by
 refine ec Tryz.func18 I<|bl<|d6 I<|cS<|bX<|bv<|bW si lB DX I<|cR qr I<|gv I<|dl h I (fun h=>?_) (fun h=>?_)
 ·exact bl<|cS<|fR<|ai<|so h▸aL I I
 ·refine lW<|bl<|dk ci I<|bo I<|f9 h Kd (xu _ _) (dU I) fun r h=>bo I<|dE I I<|dE I I<|j3 I<|bw I<|aI I<|gv I<|bo I<|aG I (d7 I)<|aG I (nD I)<|aG I (sy I)<|fT I I I I (fun hg=>jr I) ?_;exact fT I I I I (fun hg=>nd (cC I hg) hI)<|aG I (fun hg=>EH (cC I hg) (fun H=>(cC I (tP hg (rd H)))))<|im I<|a8 I<|so h▸aL I I

def VG p y{R}(h:pQ p y=some R):de aQ 5 [K bq p,K bI y] (lx R):=by
 refine ec Tryz.func5 I<|bl<|d6 I<|d6 I<|cS<|bX<|bv<|f9 h cb9 Vz trivial fun r h=>af (mT (M I))<|dl h I (fun h=>?_) (fun h=>?_)
 ·exact bl<|cS<|fR<|ai<|so h▸aL I I
 ·refine lW<|aN<|cL h fun r1 q_r1 h=>cL h fun r2 q_r2 h=>?_
  refine IN 6 [tc (K bq p),tc (K bq r1),tc (K bI y),tc (K bI r2),([4],fun s=>tV (ak ((s.getD 0 nQ).h 0).2 0)),([5],fun s=>tV (ak ((s.getD 0 nQ).h 0).2 0))] [false,false,false,false,true,true] [([],fun _=>[]),([4],fun sg=>[bx bq 24 ((sg 4).h 0).2 Fz]),([5],fun sg=>[bx bI 31 ((sg 5).h 0).2 ya]),([4,5],fun sg=>[bx bI 31 ((sg 5).h 0).2 ya,bx bq 24 ((sg 4).h 0).2 Fz])] (fun _=>I) mixed I I I I
   ⟨⟨[⟨2,fun _=>aU bq p,none⟩],_,[[],[4],[5],[4,5]],I,⟨(fun _=>I),J⟩,I,I,I,I,I,⟨fun sg=>aE I (sX pn I I),fun sg=>aE I (sX pn I I),fun sg=>aE I (sX pn I I),fun sg=>aE I (sX pn I I),J⟩⟩,
   ⟨⟨[⟨34,fun _=>K bq p,some 0⟩],_,[[],[4],[5],[4,5]],I,⟨(fun _=>I),J⟩,I,I,I,I,I,⟨fun sg=>aE I (bN R2 (Gu _ q_r1) ⟨(M I),J⟩),fun sg=>aE I (bN R2 (Gu _ q_r1) ⟨(M I),J⟩),fun sg=>aE I (bN R2 (Gu _ q_r1) ⟨(M I),J⟩),fun sg=>aE I (bN R2 (Gu _ q_r1) ⟨(M I),J⟩),J⟩⟩,
   ⟨⟨[⟨3,fun _=>aU bI y,none⟩],_,[[],[4],[5],[4,5]],I,⟨(fun _=>I),J⟩,I,I,I,I,I,⟨fun sg=>aE I (sX sC I I),fun sg=>aE I (sX sC I I),fun sg=>aE I (sX sC I I),fun sg=>aE I (sX sC I I),J⟩⟩,
   ⟨⟨[⟨36,fun _=>K bI y,some 2⟩],_,[[],[4],[5],[4,5]],I,⟨(fun _=>I),J⟩,I,I,I,I,I,⟨fun sg=>aE I (bN R1 (Gt _ q_r2) ⟨(M I),J⟩),fun sg=>aE I (bN R1 (Gt _ q_r2) ⟨(M I),J⟩),fun sg=>aE I (bN R1 (Gt _ q_r2) ⟨(M I),J⟩),fun sg=>aE I (bN R1 (Gt _ q_r2) ⟨(M I),J⟩),J⟩⟩,
   ⟨⟨[],_,[([],[4]),([5],[4,5])],I,J,I,I,I,I,I,⟨fun sg=>bJ I (mM pn oF),fun sg=>bJ I (EffOK.post_imp (post:=fun x__=>(fun(sg:Nat->OI)=>[bx bq 24 ((sg 4).h 0).2 Fz,bx bI 31 ((sg 5).h 0).2 ya]) (upd sg 4 x__)) (mM pn oF) (fun h=>cH.pick [1,0] I h)),J⟩⟩,
   ⟨⟨[],_,[([],[5]),([4],[4,5])],I,J,I,I,I,I,I,⟨fun sg=>bJ I (mM sC uz),fun sg=>bJ I (mM sC uz),J⟩⟩,
   J⟩⟩⟩⟩⟩⟩ (fun sg=>?_)
  refine(show RG _ _ _ _ [_,_] _ from ?_);refine dx<|cn pn al I<|aS 5 I<|cn sC al I<|aS 6 I<|bX<|bl<|dk pn I<|dk sC I<|f9 h UA (JW _ _) (dU I) fun r3 h=>bo I<|dE I I<|dE I I<|dE I I<|aV oA nS I fun b=>cn oA al I<|aS 7 I<|j3 I<|bw I ?_;refine bv<|bo I<|iY I<|dl h I (fun h=>?_) (fun h=>?_)
  ·exact bl<|bW Db xm N1 I<|cR Eh I<|gv I<|a8 I<|ai<|so h▸aL I I
  ·refine lW<|bv<|bW Db xm N1 I<|cR Eh I<|af (bL hI)<|bX<|aq<|aY (k:=52) I fun hN=>bO ?_;refine aO (fU (aA:=fun ls i=>(r3.1.Selects.drop i=ls)/\dh r1 r2 r3 ls=some R) (Of:=fun _ i=>[]) (Gf:=fun _ i=>[(5,aU bq r1),(6,aU bI r2),(7,aU cg r3.1),(52,hM (bj) r3.1.Selects),(53,kO r3.1.Selects),(54,aW (i:Int))]) (fun i h=>?_) (fun e tl ih i h=>?_) r3.1.Selects 0 ⟨I,h⟩) (bu I)
   ·obtain⟨D,h⟩:=h
    refine ea D I<|aJ<|bv<|bW Gi C2 Qs I<|cR GP I<|af (bL hI)<|bX<|aq<|aY (k:=242) I fun hN1=>?_;refine bO ?_;refine aO (fU (aA:=fun ls1 i1=>(r3.1.Order.drop i1=ls1)/\gX r2 r3 ls1=some R) (Of:=fun _ i1=>[]) (Gf:=fun _ i1=>[(6,aU bI r2),(7,aU cg r3.1),(242,hM (lJ) r3.1.Order),(243,kO r3.1.Order),(244,aW (i1:Int))]) (fun i1 h=>?_) (fun e1 tl1 ih1 i1 h=>?_) r3.1.Order 0 ⟨I,h⟩) (bu I)
    ·obtain⟨hx1,h⟩:=h
     refine ea hx1 I<|aJ<|bl<|bW Da xl N0 I<|cR BO I<|bW xp qQ iC I<|cR f8 I<|af (nd (M I) (M I))<|bo I<|aG I (dF Gi C2 I I) ?_;exact aG I (di Qs I I)<|aG I (lZ GP I)<|aG I (dF xq oP I I)<|aG I (di Ha I I)<|aG I (lZ A5 I)<|aG I (fun hg=>nd (cC I hg) (cC I hg))<|im I<|bo I<|aG I (dF TT JM I I)<|aG I (di da I I)<|aG I (dF Gj tt I I)<|aG I (di da I I)<|aG I (fun hg=>nd (cC I hg) (cC I hg))<|im I<|a8 I<|so h▸aL I I
    ·obtain⟨hx1,h⟩:=h
     refine d9 hx1 I<|aN<|aq<|bl<|gp GP Me I (ei hx1)<|aV Me NT I fun b1=>cn Me al I<|aS 31 I<|bX<|bl<|sw O9 If I ?_;refine dk da I<|af (ir (M I) hI)<|bo I<|aM I (dF O9 If I I)<|aM I (di da I I)<|aM I (dF xp qQ I I)<|aM I (di iC I I)<|aM I (lZ f8 I)<|aM I (fun hg=>iU (cC I hg) (cC I hg))<|kf I<|dl h I (fun h=>?_) (fun h=>?_)
     ·exact bl<|cS<|fR<|cQ<|ai<|cQ<|so h▸aL I I
     ·refine bT<|dQ hx1 hN1 I ?_;exact bf (aO (ih1 (i1+1) ⟨dJ hx1,h⟩) (bu I))
   ·obtain⟨D,h⟩:=h
    refine d9 D I<|aN<|aq<|bl<|gp Eh I3 I (ei D)<|aV I3 BY I fun b2=>cn I3 al I<|aS 11 I<|bX<|bl<|dk pn I ?_;refine bW Aa tz iC I<|f9 h Wi (Pk _ _) (dU I) fun r4 h=>bo I<|dE I I<|dE I I<|j3 I<|bw I<|bv<|bo I<|iY I<|bo I<|cL h fun t q_t h=>aM I (dF Pb Gd I I)<|aM I (di ci I I)<|aM I (d7 I) ?_
    obtain⟨r5,h1t,h0t⟩:=og q_t
    have q_r5g:=fun H=>(h1t H).1
    refine aM I (fun hg=>bN Uz (JT _ _ (q_r5g hg)) ⟨(cC I hg),(cC I hg),J⟩)<|aM I (uA I)<|af (ef (M I) (fun H=>(cC I (rd H))) (fun H=>(h1t H).2) h0t)<|bo I<|aM I (dF Gg yI I I)<|aM I (di Qr I I)<|aM I (lZ GQ I)<|aM I (dF Aa tz I I)<|aM I (di iC I I)<|aM I (lZ f8 I)<|aM I (fun hg=>nr (cC I hg) hI)<|aM I (fun hg=>jh (cC I hg) (cC I hg))<|kf I<|bo I<|aM I (dF u7 tw I I)<|aM I (di G7 I I)<|aM I (lZ pH I)<|aM I (dF xp qQ I I)<|aM I (di iC I I)<|aM I (lZ f8 I)<|aM I (fun hg=>jh (cC I hg) (cC I hg))<|kf I<|bX ?_;refine sm h I (fun h=>?_) (fun h=>?_)
    ·exact bl<|cS<|fR<|ai<|cQ<|ai<|cQ<|so h▸aL I I
    ·refine lW<|bv<|bW Gg yI Qr I<|cR GQ I<|af (bL hI)<|bX<|aq<|aY (k:=94) I fun hN2=>bO ?_;refine aO (fU (aA:=fun ls2 i2=>(e.Joins.drop i2=ls2)/\gW r1 r3 (dh r1 r2 r3 tl) e r4 ls2 i2=some R) (Of:=fun _ i2=>[]) (Gf:=fun _ i2=>[(5,aU bq r1),(6,aU bI r2),(7,aU cg r3.1),(11,aU bj e),(12,qq r4.1),(52,hM (bj) r3.1.Selects),(53,kO r3.1.Selects),(54,aW (i:Int)),(94,hM (aD) e.Joins),(95,kO e.Joins),(96,aW (i2:Int))]) (fun i2 h=>?_) (fun e2 tl2 ih2 i2 h=>?_) e.Joins 0 ⟨I,h⟩) (bu I)
     ·obtain⟨hx2,h⟩:=h
      refine ea hx2 I<|aJ<|aI I<|bw I ?_;refine lF (aA:=fun over=>f6 r3 (dh r1 r2 r3 tl) e over=some R) (Of:=fun over=>[]) (Gf:=fun over=>[(5,aU bq r1),(6,aU bI r2),(7,aU cg r3.1),(11,aU bj e),(18,qq over),(52,hM (bj) r3.1.Selects),(53,kO r3.1.Selects),(54,aW (i:Int))]) (fun over h=>?_) (fun tD=>?_)
      ·skip
       refine bv<|bW JP yH ci I<|bo I<|f9 h Uz (JT _ _) (dU I) fun r6 h=>af (mT (M I))<|bo I<|aM I (d7 I)<|aM I (lZ f8 I)<|aM I (fun hg=>jA (cC I hg) hI)<|kf I<|dl h I (fun h=>?_) (fun h=>?_)
       ·exact bl<|cS<|fR<|ai<|cQ<|ai<|cQ<|so h▸aL I I
       ·refine lW<|bl<|bW u7 tw G7 I<|cR pH I<|af (bL hI)<|bX<|aq<|aY (k:=211) I fun hN3=>bO ?_;refine aO (fU (aA:=fun ls3 i3=>(e.Items.drop i3=ls3)/\jD r3 (dh r1 r2 r3 tl) over ls3 i3=some R) (Of:=fun _ i3=>[]) (Gf:=fun _ i3=>[(5,aU bq r1),(6,aU bI r2),(7,aU cg r3.1),(18,qq over),(52,hM (bj) r3.1.Selects),(53,kO r3.1.Selects),(54,aW (i:Int)),(211,hM (ae) e.Items),(212,kO e.Items),(213,aW (i3:Int))]) (fun i3 h=>?_) (fun e3 tl3 ih3 i3 h=>?_) e.Items 0 ⟨I,h⟩) (bu I)
        ·obtain⟨hx3,h⟩:=h
         refine ea hx3 I<|dQ D hN I ?_;exact bf (aO (ih (i+1) ⟨dJ D,h⟩) (bu I))
        ·obtain⟨hx3,h⟩:=h
         refine d9 hx3 I<|aN<|aq<|aI I<|gp pH ci I (ei hx3)<|aV ci eb I fun b3=>j3 I<|cn ci al I<|aS 27 I<|bX<|aN ?_;refine bd<|dk ci I<|bo I<|f9 h Kd (xu _ _) (dU I) fun r7 h=>bo I<|dE I I<|dE I I<|j3 I<|bw I<|aI I<|iY I<|bo I<|cL h fun t1 q_t1 h=>aM I (d7 I)<|aM I (dF xp qQ I I)<|aM I (di iC I I)<|aM I (d7 I) ?_
         obtain⟨e4,h1t1,h0t1⟩:=og q_t1
         have q_e4g:=fun H=>(h1t1 H).1
         refine aM I (fun hg=>ic f8 da I (cC I hg) (cC I hg) (q_e4g hg))<|aM I (di da I I)<|aM I (fun hg=>jh (cC I hg) (cC I hg))<|aM I (sy I)<|fk I I I I (fun hg=>jr I)<|fk I I I I (fun hg=>jh (cC I hg) hI)<|aM I (fun hg=>kV (cC I hg) (fun H=>(cC I (tP hg H))))<|af (ef (M I) (fun H=>(cC I (rd H))) (fun H=>(h1t1 H).2) h0t1)<|dl h I (fun h=>?_) (fun h=>?_)
         ·exact bl<|cS<|fR<|cQ<|ai<|At<|cQ<|ai<|cQ<|so h▸aL I I
         ·refine bT<|dQ hx3 hN3 I ?_;exact bf (aO (ih3 (i3+1) ⟨dJ hx3,h⟩) (bu I))
      ·skip
       refine bl<|bW z8 oc KP I<|dl h I (fun h=>?_) (fun h=>?_)
       ·refine bl<|cu false Q 3<|af (ck zR)<|bX<|bv<|bW z7 yG iC I<|cR f8 I<|af (bL hI)<|bX<|aq<|aY (k:=132) I fun hN4=>bO ?_;refine aO (mC (aA:=fun ls4 i4 over1 l c=>(e.Keys.drop i4=ls4)/\gV r3 (dh r1 r2 r3 tl) e r4 ls4 over1=some R) (Of:=fun _ i4 over1 l c=>[fq Q 3 l c over1]) (Gf:=fun _ i4 over1 l c=>[(5,aU bq r1),(6,aU bI r2),(7,aU cg r3.1),(11,aU bj e),(12,qq r4.1),(18,rW l c over1),(52,hM (bj) r3.1.Selects),(53,kO r3.1.Selects),(54,aW (i:Int)),(132,qq e.Keys),(133,kO e.Keys),(134,aW (i4:Int))]) (fun i4 over1 l c h=>?_) (fun e5 tl4 ih4 i4 over1 l c h=>?_) e.Keys 0 xZ none 0 ⟨I,h⟩) (bu I)
        ·obtain⟨hx4,h⟩:=h
         refine ea hx4 I<|aJ<|bl<|bW xn yF I4 I<|cR Fs I<|af (bL hI)<|bX<|aq<|aY (k:=155) I fun hN5=>bO ?_;refine aO (mC (aA:=fun ls5 i5 over2 l1 c1=>(e.Aggs.drop i5=ls5)/\dA r3 (dh r1 r2 r3 tl) e r4 ls5 over2=some R) (Of:=fun _ i5 over2 l1 c1=>[fq Q 3 l1 c1 over2]) (Gf:=fun _ i5 over2 l1 c1=>[(5,aU bq r1),(6,aU bI r2),(7,aU cg r3.1),(11,aU bj e),(12,qq r4.1),(18,rW l1 c1 over2),(52,hM (bj) r3.1.Selects),(53,kO r3.1.Selects),(54,aW (i:Int)),(155,hM (aR) e.Aggs),(156,kO e.Aggs),(157,aW (i5:Int))]) (fun i5 over2 l1 c1 h=>?_) (fun e6 tl5 ih5 i5 over2 l1 c1 h=>?_) e.Aggs 0 over1 l c ⟨I,h⟩) (bu I)
         ·obtain⟨hx5,h⟩:=h
          refine ea hx5 I<|qp<|jd 18 I<|lG 18 I<|aP ?_;exact cP (tD over2 h) (bu I)
         ·obtain⟨hx5,h⟩:=h
          refine d9 hx5 I<|aN<|aq<|bl<|gp Fs Bc I (ei hx5)<|aV Bc IT I fun b4=>cn Bc al I<|aS 22 I<|bX<|bl<|cv ?_;refine bX ?_;refine lF (aA:=fun k=>gY (dA r3 (dh r1 r2 r3 tl) e r4 tl5) over2 k=some R) (Of:=fun k=>[fq Q 3 l1 c1 over2]) (Gf:=fun k=>[(5,aU bq r1),(6,aU bI r2),(7,aU cg r3.1),(11,aU bj e),(12,qq r4.1),(18,rW l1 c1 over2),(23,aW k),(52,hM (bj) r3.1.Selects),(53,kO r3.1.Selects),(54,aW (i:Int)),(155,hM (aR) e.Aggs),(156,kO e.Aggs),(157,aW (i5:Int))]) (fun k h=>?_) (fun K1=>?_)
          ·skip
           refine bd<|bo I<|bo I<|af (aZ (r:=Q) (ys:=[k]) (xs:=[.tmp 183]) f8 da I I I I I ⟨(M I),J⟩)<|cL h fun over3 q_over3 h=>ev da I I I I f8 I I (M I) (M I) q_over3 fun l2 c2=>j3 I<|bR<|dQ hx5 hN5 I ?_;exact bf (aO (ih5 (i5+1) over3 l2 c2 ⟨dJ hx5,h⟩) (bu I))
          ·skip
           refine bl<|bW tA od da I<|iY I<|dl h I (fun h=>?_) (fun h=>?_)
           ·refine bl<|bW C6 yJ ci I<|bo I<|f9 h Kd (xu _ _) (dU I) fun r8 h=>bo I<|dE I I<|dE I I<|j3 I<|bw I<|bv<|bo I<|iY I<|dl h I (fun h=>?_) (fun h=>?_)
            ·exact bl<|cS<|fR<|ai<|ai<|cQ<|ai<|cQ<|cQ<|ai<|cQ<|aP<|so h▸aL I I
            ·refine lW<|bl<|bW tA od da I<|gv I<|bo I<|aM I (dF tA od I I)<|aM I (di da I I)<|aM I (nD I)<|kf I<|dl h I (fun h=>?_) (fun h=>?_)
             ·refine bd<|bo I<|j3 I<|bR ?_;exact cP (K1 r8.1 h) (bu I)
             ·refine bT ?_;exact cP (K1 (2:Int) h) (bu I)
           ·refine bT ?_;exact cP (K1 (2:Int) h) (bu I)
        ·obtain⟨hx4,h⟩:=h
         refine d9 hx4 I<|aN<|aq<|bl<|gp f8 da I (ei hx4)<|bw I<|bv<|bo I<|af (ir (M I) hI) ?_;refine bo I<|aM I (d7 I)<|aM I (d7 I)<|aM I (lZ f8 I)<|aM I (fun hg=>iU (cC I hg) (cC I hg))<|kf I<|dl h I (fun h=>?_) (fun h=>?_)
         ·exact bl<|cS<|fR<|ai<|cQ<|ai<|cQ<|ai<|cQ<|ai<|cQ<|aP<|so h▸aL I I
         ·refine lW<|bd<|bo I<|bo I<|bo I<|cL h fun e7 q_e7 h=>gp f8 da I q_e7<|af (aZ (r:=Q) (ys:=[e7]) (xs:=[.tmp 150]) f8 da I I I I I ⟨(M I),J⟩)<|cL h fun over4 q_over4 h=>ev da I I I I f8 I I (M I) (M I) q_over4 fun l3 c3=>j3 I<|bR<|dQ hx4 hN4 I ?_;exact bf (aO (ih4 (i4+1) over4 l3 c3 ⟨dJ hx4,h⟩) (bu I))
       ·refine bl<|bW z7 yG iC I<|cR f8 I<|bW xn yF I4 I<|cR Fs I<|af (oM (M I) (M I))<|sw JP yH I<|bW si lB DX I<|cR qr I<|af (oM (M I) (M I))<|af (jA (M I) hI)<|dl h I (fun h=>?_) (fun h=>?_)
        ·exact bl<|cS<|fR<|ai<|cQ<|ai<|cQ<|so h▸aL I I
        ·refine bT ?_;exact cP (tD r4.1 h) (bu I)
     ·obtain⟨hx2,h⟩:=h
      refine d9 hx2 I<|aN<|aq<|aI I<|gp GQ Mf I (ei hx2)<|aV Mf GZ I fun b5=>j3 I<|cn Mf al I<|aS 15 I<|bX<|aN ?_;refine cL h fun y1 q_y1 h=>cL h fun r9 q_r9 h=>?_
      refine lU (ts:=[_,_,_,_,_,_,_,_,_,_,_,_]) mixed I I
       ⟨AA 5 I I (sX pn I I),
       ⟨AA 11 I I (wP Aa tz I I),
       ⟨zp 1 iC I I,
       ⟨oz I I,
       ⟨ly 105 3 I I (oM (M I) hI),
       ⟨nP 104 2 106 4 I I I (j9 f8 da I (M I) (M I) q_y1),
       ⟨nP 102 0 107 5 I I I (bN Wi (Pk _ _ q_r9) ⟨(M I),(M I),J⟩),
       ⟨ly 108 6 I I (jr I),
       ⟨ly 101 7 I I (wd I I),
       ⟨ly 101 7 I I (wd I I),
       ⟨ly 109 8 I I (DN I),
       ⟨ly 110 9 I I (DN I),
       J⟩⟩⟩⟩⟩⟩⟩⟩⟩⟩⟩⟩ ?_
      refine aJ<|aI I<|iY I<|bo I<|aM I (dF Pa C3 I I)<|aM I (fun hg=>jV si I lB I (cC I hg))<|aM I (di DX I I)<|aM I (lZ qr I)<|aM I (nD I)<|kf I<|bo I<|cL h fun t2 q_t2 h=>aM I (dF Pa C3 I I)<|aM I (di ci I I)<|aM I (d7 I) ?_
      obtain⟨r10,h1t2,h0t2⟩:=og q_t2
      have q_r10g:=fun H=>(h1t2 H).1
      refine aM I (fun hg=>bN Uz (JT _ _ (q_r10g hg)) ⟨(cC I hg),(cC I hg),J⟩)<|aM I (uA I)<|af (ef (M I) (fun H=>(cC I (rd H))) (fun H=>(h1t2 H).2) h0t2)<|dl h I (fun h=>?_) (fun h=>?_)
      ·exact bl<|cS<|fR<|cQ<|ai<|cQ<|cQ<|ai<|cQ<|so h▸aL I I
      ·refine bT<|dQ hx2 hN2 I ?_;exact bf (aO (ih2 (i2+1) ⟨dJ hx2,h⟩) (bu I))

end Go.Proofs.YthbdkceckjihgaaGreatDoor

