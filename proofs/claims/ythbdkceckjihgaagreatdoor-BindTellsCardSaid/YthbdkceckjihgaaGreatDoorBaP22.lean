/- cH of this claim: P22. -/
import Derived.Test.YthbdkceckjihgaaGreatDoorBaT
import Derived.Test.YthbdkceckjihgaaGreatDoorBaP21
set_option linter.all false
namespace Go.Proofs.YthbdkceckjihgaaGreatDoor
open Go
set_option maxRecDepth 100000

def Mb c s{R}(h:rb c s=some R):cw aH 25 [V bc c,V bM s] (tT [aO R.1,aO R.2.1,aO R.2.2]):=by
 refine cX Tryz.func25 I<|aU<|cY I<|cY I<|bJ<|bJ<|bJ<|bG<|aU<|cN lB I<|bN AY AV gc I<|eD h Oe (HW _ _) (dc I) fun r h=>a8 I<|dx I I<|dx I I<|gJ I<|bk I ?_;refine aZ<|a8 I<|ic I<|cE h I (fun h=>?_) (fun h=>?_)
 ·exact aG I<|bJ<|bJ<|aR I<|ah<|so h▸Bm I I I I
 ·refine ip<|aZ<|bN vB lc Ev I<|cE h I (fun h=>?_) (fun h=>?_)
  ·refine aF ?_
   refine fX (ts:=[_,_,_,_,_,_,_,_,_,_,_,_]) mixed I I
    ⟨iQ I I,
    ⟨gH 21 0 I I (Mx eu I),
    ⟨rp 3 I I (oo yb AU I I),
    ⟨mQ 2 gc I I,
    ⟨gH 24 3 I I (Mx eu I),
    ⟨rp 3 I I (oo vA AS I I),
    ⟨mQ 5 FG I I,
    ⟨gH 27 6 I I (Mx CJ I),
    ⟨ij 25 4 28 7 I I I (iA (Y I) (Y I)),
    ⟨gH 22 1 I I (wA I),
    ⟨gH 29 8 I I (wA I),
    ⟨zd0 I (OY),
    Q⟩⟩⟩⟩⟩⟩⟩⟩⟩⟩⟩⟩ ?_
   exact av<|rk<|ah<|so h▸Bm I I I I
  ·exact ip<|aG I<|cu eu I<|a8 I<|cu eu I<|gJ I<|gJ I<|ev<|so h▸Bm I I I I

def Nv p places y{R}(h:mY p places y=some R):cw aH 8 [V bc p,lE places,V bH y] (ia R):=by
 refine cX Tryz.func8 I<|aU<|cY I<|cY I<|bQ<|bG<|aZ<|eD h cb9 No trivial fun r h=>d (iz (Y I))<|cE h I (fun h=>?_) (fun h=>?_)
 ·exact aU<|bQ<|dh<|ah<|so h▸aA I I
 ·refine ip<|aF<|ck h fun r1 q_r1 h=>ck h fun r2 q_r2 h=>?_
  refine CE 6 [tc (V bc p),tc (V bc r1),tc (V bH y),tc (V bH r2),([4],fun s=>tV (aj ((s.getD 0 kT).h 0).2 0)),([5],fun s=>tV (aj ((s.getD 0 kT).h 0).2 0))] [false,false,false,false,true,true] [([],fun _=>[]),([4],fun sg=>[bx bc 24 ((sg 4).h 0).2 Ai]),([5],fun sg=>[bx bH 31 ((sg 5).h 0).2 tK]),([4,5],fun sg=>[bx bH 31 ((sg 5).h 0).2 tK,bx bc 24 ((sg 4).h 0).2 Ai])] (fun _=>I) mixed I I I I
   ⟨⟨[⟨3,fun _=>bb bc p,none⟩],_,[[],[4],[5],[4,5]],I,⟨(fun _=>I),Q⟩,I,I,I,I,I,⟨fun sg=>h2 I (o9 lB I I),fun sg=>h2 I (o9 lB I I),fun sg=>h2 I (o9 lB I I),fun sg=>h2 I (o9 lB I I),Q⟩⟩,
   ⟨⟨[⟨23,fun _=>V bc p,some 0⟩],_,[[],[4],[5],[4,5]],I,⟨(fun _=>I),Q⟩,I,I,I,I,I,⟨fun sg=>h2 I (bp Kh (Bc _ q_r1) ⟨(Y I),Q⟩),fun sg=>h2 I (bp Kh (Bc _ q_r1) ⟨(Y I),Q⟩),fun sg=>h2 I (bp Kh (Bc _ q_r1) ⟨(Y I),Q⟩),fun sg=>h2 I (bp Kh (Bc _ q_r1) ⟨(Y I),Q⟩),Q⟩⟩,
   ⟨⟨[⟨5,fun _=>bb bH y,none⟩],_,[[],[4],[5],[4,5]],I,⟨(fun _=>I),Q⟩,I,I,I,I,I,⟨fun sg=>h2 I (o9 pB I I),fun sg=>h2 I (o9 pB I I),fun sg=>h2 I (o9 pB I I),fun sg=>h2 I (o9 pB I I),Q⟩⟩,
   ⟨⟨[⟨25,fun _=>V bH y,some 2⟩],_,[[],[4],[5],[4,5]],I,⟨(fun _=>I),Q⟩,I,I,I,I,I,⟨fun sg=>h2 I (bp Kg (Bb _ q_r2) ⟨(Y I),Q⟩),fun sg=>h2 I (bp Kg (Bb _ q_r2) ⟨(Y I),Q⟩),fun sg=>h2 I (bp Kg (Bb _ q_r2) ⟨(Y I),Q⟩),fun sg=>h2 I (bp Kg (Bb _ q_r2) ⟨(Y I),Q⟩),Q⟩⟩,
   ⟨⟨[],_,[([],[4]),([5],[4,5])],I,Q,I,I,I,I,I,⟨fun sg=>bB I (jZ lB lH),fun sg=>bB I (EffOK.post_imp (post:=fun x__=>(fun(sg:Nat->OI)=>[bx bc 24 ((sg 4).h 0).2 Ai,bx bH 31 ((sg 5).h 0).2 tK]) (GM sg 4 x__)) (jZ lB lH) (fun h=>cr.pick [1,0] I h)),Q⟩⟩,
   ⟨⟨[],_,[([],[5]),([4],[4,5])],I,Q,I,I,I,I,I,⟨fun sg=>bB I (jZ pB qB),fun sg=>bB I (jZ pB qB),Q⟩⟩,
   Q⟩⟩⟩⟩⟩⟩ (fun sg=>?_)
  refine(show RG _ _ _ _ [_,_] _ from ?_);refine cU<|bX lB al I<|aP 7 I<|bX pB al I<|aP 8 I<|bG<|aG I<|xk h Ke (E0 _ _) (dc I) fun r3 h l c=>bk I<|aU<|cN lB I<|a8 I<|jc<|lv 28 I<|lv 9 I<|lv 31 I<|ck h fun r4 q_r4 h=>?_;refine d (bp Oe (HW _ _ q_r4) ⟨(Y I),(kS (Y I)),Q⟩)<|a8 I<|dx I I<|dx I I<|gJ I<|bk I<|aU<|bJ<|ov aC<|bG ?_;refine iL (aw:=fun no=>gE places r1 r2 r3 r4 no=some R) (Of:=fun no=>[Z aC 3 l c r3]) (Gf:=fun no=>[(1,lE places),(7,bb bc r1),(8,bb bH r2),(9,tO aC l c r3),(10,lE r4.1),(11,aO r4.2),(12,aO no),(13,lE ([]))]) (fun no h=>?_) (fun hg=>?_)
  ·skip
   refine aZ<|a8 I<|d (fJ eu (kS (Y I)))<|d (bt hI)<|bG<|ai<|rW 38 I<|aQ (k:=38) I fun hN=>bq ?_;refine aE (ft (aw:=fun ls i no1=>(r3.drop i=ls)/\eQ places r1 r2 r3 r4 ls no1=some R) (Of:=fun _ i no1=>[Z aC 3 l c r3]) (Gf:=fun _ i no1=>[(1,lE places),(7,bb bc r1),(8,bb bH r2),(9,tO aC l c r3),(10,lE r4.1),(11,aO r4.2),(12,aO no1),(13,lE ([])),(38,lE r3),(39,jf r3),(40,aO (i:Int))]) (fun i no1 h=>?_) (fun e tl ih i no1 h=>?_) r3 0 no ⟨I,h⟩) (be I)
   ·obtain⟨A,h⟩:=h
    refine dr A I<|av ?_;refine iL (aw:=fun want=>ec places r1 r2 r3 r4 no1 want=some R) (Of:=fun want=>[Z aC 3 l c r3]) (Gf:=fun want=>[(1,lE places),(7,bb bc r1),(8,bb bH r2),(9,tO aC l c r3),(10,lE r4.1),(11,aO r4.2),(12,aO no1),(13,lE want)]) (fun want h=>?_) (fun K1=>?_)
    ·skip
     refine aZ<|a8 I<|a8 I<|d (eJ (Y I) (Y I))<|a8 I<|aK I (cO I)<|aK I (kV eu I)<|aK I (cO I)<|aK I (kV eu I)<|aK I (fun K=>eJ (bI I K) (bI I K))<|gU I<|cE h I (fun h=>?_) (fun h=>?_)
     ·exact aU<|bQ<|dh<|ah<|aI<|so h▸aA I I
     ·refine ip<|aZ<|a8 I<|cu eu I<|d (bt hI)<|bG<|ai<|aQ (k:=73) I fun hN1=>bq ?_;refine aE (eH (aw:=fun ls1 i1=>(want.drop i1=ls1)/\eb places r1 r2 r3 r4 no1 want ls1 i1=some R) (Of:=fun _ i1=>[Z aC 3 l c r3]) (Gf:=fun _ i1=>[(1,lE places),(7,bb bc r1),(8,bb bH r2),(9,tO aC l c r3),(10,lE r4.1),(12,aO no1),(13,lE want),(74,jf want),(75,aO (i1:Int))]) (fun i1 h=>?_) (fun e1 tl1 ih1 i1 h=>?_) want 0 ⟨I,h⟩) (be I)
      ·obtain⟨hx1,h⟩:=h
       refine dr hx1 I<|av<|aF<|ck h fun r5 q_r5 h=>ck h fun r6 q_r6 h=>?_
       refine fX (ts:=[_,_,_,_,_,_,_,_,_,_,_,_,_,_,_,_,_]) mixed I I
        ⟨rp 7 I I (o9 lB I I),
        ⟨iQ I I,
        ⟨iQ I I,
        ⟨gH 91 2 I I (Mx eu I),
        ⟨gH 92 3 I I (Dp (Y I) hI (by decide)),
        ⟨gH 93 4 I I (OX I),
        ⟨iQ I I,
        ⟨gH 95 6 I I (bp Ke (DL _ _ q_r5) ⟨(Y I),hI,Q⟩),
        ⟨My 90 1 94 5 96 7 I I I I (bV (y:=(⟨r3,[],mn,mn,((((places.length:Int)).tmod (2:Int))==(1:Int)),false,r5,[],[]⟩:bP)) G1 Pi xh (⟨_,_,_,_,_,I,t8,I,(kS (Y I)),⟨_,_,_,_,_,I,tZ,I,(Y I),⟨_,_,_,_,_,I,tY,I,(Y I),I⟩⟩⟩)),
        ⟨ij 89 0 97 8 I I I (bp Qh (Mb _ _ q_r6) ⟨(Y I),(Y I),Q⟩),
        ⟨gH 98 9 I I (fh I),
        ⟨gH 88 10 I I (ro I I),
        ⟨gH 88 10 I I (ro I I),
        ⟨gH 88 10 I I (ro I I),
        ⟨gH 99 11 I I (wA I),
        ⟨gH 100 12 I I (wA I),
        ⟨gH 101 13 I I (wA I),
        Q⟩⟩⟩⟩⟩⟩⟩⟩⟩⟩⟩⟩⟩⟩⟩⟩⟩ ?_
       refine av<|aZ<|a8 I<|cu eu I<|d (Dp (Y I) hI (by decide))<|eN I<|a8 I<|ck h fun t q_t h=>aB I (cO I)<|aB I (cO I)<|aB I (fun K=>eJ (bI I K) (bI I K))<|aB I (m4 I) ?_
       obtain⟨t1,h1t,h0t⟩:=og q_t
       have q_t1g:=fun D=>(h1t D).1
       refine cn I I I I (fun K=>fh I)<|cn I I I I (fun K=>mg (bI I K) hI)<|cn I I I I (fun K=>bt (bI I K)) ?_
       obtain⟨t2,h1t1,h0t1⟩:=I4 q_t1g
       have q_t2g:=fun D=>(h1t1 D).1
       refine cd I I I I (fun K=>fh I)<|cd I I I I (fun K=>fh I)<|cd I I I I (fun K=>fJ eu (bI I K))<|cd I I I I (fun K=>eJ (bI I K) (bI I K))<|cd I I I I (fun K=>bt (bI I K)) ?_
       obtain⟨t3,h1t2,h0t2⟩:=I4 q_t2g
       have q_t3g:=fun D=>(h1t2 D).1
       refine cn I I I I (fun K=>fh I)<|cn I I I I (fun K=>fh I) ?_
       obtain⟨r7,h1t3,h0t3⟩:=I4 q_t3g
       have q_r7g:=fun D=>(h1t3 D).1
       refine cn I I I I (fun K=>bp Ke (DL _ _ (q_r7g K)) ⟨(bI I K),hI,Q⟩)<|cn I I I I (fun K=>fJ eu (bI I K))<|cn I I I I (fun K=>eJ (bI I K) (bI I K))<|cd I I I I (fun K=>cP (bI I K) (fun D=>(bI I (ku K (lD D)))) (fun D=>(h1t3 (ku K D)).2) (fun D=>h0t3 K D))<|cn I I I I (fun K=>cb (bI I K) (fun D=>(bI I (ku K D))) (fun D=>(h1t2 (ku K D)).2) (fun D=>h0t2 K D))<|aB I (fun K=>cP (bI I K) (fun D=>(bI I (ku K (lD D)))) (fun D=>(h1t1 (ku K D)).2) (fun D=>h0t1 K D))<|d (cb (Y I) (fun D=>(bI I D)) (fun D=>(h1t D).2) h0t)<|a8 I<|aK I (cO I)<|aK I (kV eu I)<|aK I (fun K=>Dp (bI I K) hI (by decide))<|aK I (lF I)<|aK I (m4 I)<|cd I I I I (fun K=>fh I)<|cd I I I I (fun K=>fh I)<|cd I I I I (fun K=>eJ (bI I K) (bI I K))<|cd I I I I (fun K=>bt (bI I K))<|cn I I I I (fun K=>fh I)<|cn I I I I (fun K=>mg (bI I K) hI)<|cn I I I I (fun K=>bt (bI I K))<|cd I I I I (fun K=>fh I)<|cd I I I I (fun K=>fh I)<|cd I I I I (fun K=>fJ eu (bI I K))<|cd I I I I (fun K=>eJ (bI I K) (bI I K)) ?_;refine cd I I I I (fun K=>bt (bI I K))<|cn I I I I (fun K=>fh I)<|cn I I I I (fun K=>fh I)<|cn I I I I (fun K=>eJ (bI I K) (bI I K))<|cd I I I I (fun K=>rA (bI I K) (fun D=>(bI I (ku K (lD D)))))<|cn I I I I (fun K=>f9 (bI I K) (fun D=>(bI I (ku K D))))<|cd I I I I (fun K=>rA (bI I K) (fun D=>(bI I (ku K (lD D)))))<|aK I (fun K=>f9 (bI I K) (fun D=>(bI I (ku K D))))<|gU I<|a8 I<|aK I (cO I)<|aK I (sq I)<|aK I (m4 I)<|cd I I I I (fun K=>fh I)<|cd I I I I (fun K=>fh I)<|cd I I I I (fun K=>iA (bI I K) (bI I K))<|cd I I I I (fun K=>eJ (bI I K) hI)<|aK I (fun K=>f9 (bI I K) (fun D=>(bI I (ku K D))))<|gU I<|cE h I (fun h=>?_) (fun h=>?_)
       ·exact aU<|bQ<|dh<|ah<|aI<|so h▸aA I I
       ·refine ip<|aZ<|bN pP lO At I<|cu qy I<|d (bt hI)<|bG<|ai<|aQ (k:=165) I fun hN2=>bq<|qg ?_;refine aE (eH (aw:=fun ls2 i2=>(r2.Selects.drop i2=ls2)/\gD ls2=some R) (Of:=fun _ i2=>[]) (Gf:=fun _ i2=>[(165,fO (aV) r2.Selects),(166,jf r2.Selects),(167,aO (i2:Int))]) (fun i2 h=>?_) (fun e2 tl2 ih2 i2 h=>?_) r2.Selects 0 ⟨I,h⟩) (be I)
        ·obtain⟨hx2,h⟩:=h
         exact dr hx2 I<|av<|aU<|bQ<|dh<|so h▸aA I I
        ·obtain⟨hx2,h⟩:=h
         refine dq hx2 I<|aF<|ai<|aU<|eM qy mR I (dv hx2)<|aT mR rn I fun b=>bX mR al I<|aP 20 I<|bG<|aF<|ck h fun r8 q_r8 h=>ck h fun r9 q_r9 h=>?_
         refine fX (ts:=[_,_,_,_,_]) mixed I I
          ⟨rp 20 I I (o9 mR I I),
          ⟨gH 171 0 I I (bp NL (HU _ q_r8) ⟨(Y I),Q⟩),
          ⟨rp 20 I I (o9 mR I I),
          ⟨gH 173 2 I I (bp Qg (Ma _ q_r9) ⟨(Y I),Q⟩),
          ⟨ij 172 1 174 3 I I I (EF GR (Y I) (Y I)),
          Q⟩⟩⟩⟩⟩ ?_
         refine av<|m3 h I (fun h=>?_) (fun h=>?_)
         ·exact aU<|bQ<|dh<|cz<|ah<|cz<|so h▸aA I I
         ·refine bA<|db hx2 hN2 I ?_;exact aM (aE (ih2 (i2+1) ⟨cW hx2,h⟩) (be I))
      ·obtain⟨hx1,h⟩:=h
       refine dq hx1 I<|aF<|ai<|aG I<|bk I<|aF<|ck h fun e3 q_e3 h=>?_
       refine fX (ts:=[_,_,_,_,_,_,_,_,_]) mixed I I
        ⟨iQ I I,
        ⟨iQ I I,
        ⟨ij 78 0 79 1 I I I (IP eu cF I I I q_e3),
        ⟨mQ 2 cF I I,
        ⟨iQ I I,
        ⟨iQ I I,
        ⟨ij 82 4 83 5 I I I (IP eu cF I I I (dv hx1)),
        ⟨mQ 6 cF I I,
        ⟨ij 81 3 85 7 I I I (eJ (Y I) (Y I)),
        Q⟩⟩⟩⟩⟩⟩⟩⟩⟩ ?_
       refine av<|m3 h I (fun h=>?_) (fun h=>?_)
       ·exact aU<|bQ<|dh<|cz<|ah<|cz<|aI<|so h▸aA I I
       ·refine bA<|db hx1 hN1 I ?_;exact aM (aE (ih1 (i1+1) ⟨cW hx1,h⟩) (be I))
    ·skip
     refine aG I<|eN I<|cE h I (fun h=>?_) (fun h=>?_)
     ·refine aL<|cN lB I<|a8 I<|xk h Qi (Jn _ _) ⟨(Y I),(kS (Y I)),Q⟩ fun r10 h l1 c1=>gJ I<|bu<|nt<|fN 13 I<|fN 62 I<|je 13 I<|aI ?_;exact cx (K1 r10 h) (be I)
     ·refine bA ?_;exact cx (K1 ([]) h) (be I)
   ·obtain⟨A,h⟩:=h
    refine dq A I<|aF<|ai<|aU<|eM eu cF I (dv A)<|bk I<|aG I<|eN I<|a8 I ?_;refine aB I (cO I)<|aB I (fun K=>fl (bI I K) hI)<|aB I (m4 I)<|cn I I I I (fun K=>fh I)<|cn I I I I (fun K=>oo iU dw I I)<|cn I I I I (fun K=>fS pd I I (bI I K))<|cn I I I I (fun K=>fJ mj (bI I K))<|cn I I I I (fun K=>e9 (bI I K) (bI I K))<|aB I (fun K=>rA (bI I K) (fun D=>(bI I (ku K (lD D)))))<|fF I<|cE h I (fun h=>?_) (fun h=>?_)
    ·refine aL<|bJ<|bu<|db A hN I ?_;exact aM (aE (ih (i+1) (4:Int) ⟨cW A,h⟩) (be I))
    ·refine bA<|db A hN I ?_;exact aM (aE (ih (i+1) no1 ⟨cW A,h⟩) (be I))
  ·skip
   refine aU<|cN lB I<|eD h Qj (Mc _) (dc I) fun r11 h=>d (iz (Y I))<|cE h I (fun h=>?_) (fun h=>?_)
   ·refine aL<|bJ<|bu ?_;exact cx (hg (210:Int) h) (be I)
   ·refine bA ?_;exact cx (hg (0:Int) h) (be I)

end Go.Proofs.YthbdkceckjihgaaGreatDoor

