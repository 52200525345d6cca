import Derived.Test.YtadeokalnbmppaaGreatDoorReT
import Derived.Test.YtadeokalnbmppaaGreatDoorReP14
set_option linter.all false
namespace Go.Proofs.YtadeokalnbmppaaGreatDoor
open Go Tryz
set_option maxRecDepth 100000
def V1 q c{R}(h:ww q c=some R):cN aL 23 [tD cw q,tD eH c] (tT [tD ue R.1,bX R.2.1,bX R.2.2.1,bX R.2.2.2]):=by
 refine dL func23 J<|aV<|cR J<|cR J<|M (bL (show aG _ _ _ Sv from TD))<|cM<|cM<|cM<|bA<|bc<|cx Cb J<|eG h adW (V4 _) (cA J) fun r h=>aU J<|aB J<|mn J ?_;refine cD h J (fun h=>?_) (fun h=>?_)
 ·exact aB J<|M (bL (show aG _ _ _ Sv from TD))<|cM<|cM<|bz J<|ai<|so h▸Bn J J J J J
 ·refine kp<|bc<|bg jz fv qY J<|cm pH J<|M (gA (Y J) hI)<|aQ J<|aC J (cZ jz fv J J)<|aC J (cG qY J J)<|aC J (fM pH J)<|aC J (fun H=>fR (br J H) hI)<|fV J<|cD h J (fun h=>?_) (fun h=>?_)
  ·exact aV<|M (bL (show aG _ _ _ Sv from TD))<|cM<|cM<|jK<|ai<|so h▸Bn J J J J J
  ·refine kp<|aV<|cx qG J<|cx Cb J<|cr true (eW gG) 71<|M (dl (y:=lP (⟨q,c,[]⟩:df) (ak none 0 (([]:List (List (List Int))).length))) acK ac1 Ij (⟨_,_,_,_,_,J,F4,J,(Y J),⟨_,_,_,_,_,J,F3,J,(Y J),J⟩⟩))<|tU (Y J) J fun b=>aU J<|bc<|bg jz fv qY J<|cm pH J<|M (bH hI)<|bA<|am<|aR (k:=36) J fun hN=>bE ?_;refine aE (qb (h3:=fun ls i x l c1=>(q.J'.drop i=ls)/\rA q ls i x=some R) (Of:=fun _ i x l c1=>[bx jO 123 b (lP x (ak l c1 x.j'.length)),dM (eW gG) 71 l c1 x.j']) (Gf:=fun _ i x l c1=>[(2,aY cw q),(9,tV (an b 0)),(36,fI (bk) q.J'),(37,jg q.J'),(38,bX (i:Int))]) (fun i x l c1 h=>?_) (fun e tl ih i x l c1 h=>?_) q.J' 0 (⟨q,c,([]:List (List (List Int)))⟩:df) none 0 ⟨J,h⟩) (aX J)
   ·obtain⟨I,h⟩:=h;refine dH I J<|ax<|bc<|bg jz fv qY J<|cm pH J<|M (bH hI)<|bA<|am<|aR (k:=78) J fun hN1=>?_;refine bE ?_;refine aE (fj (h3:=fun ls1 i1=>(q.J'.drop i1=ls1)/\rz x ls1 i1=some R) (Of:=fun _ i1=>[bx jO 123 b (lP x (ak l c1 x.j'.length)),dM (eW gG) 71 l c1 x.j']) (Gf:=fun _ i1=>[(9,tV (an b 0)),(79,jg q.J'),(80,bX (i1:Int))]) (fun i1 h=>?_) (fun e1 tl1 ih1 i1 h=>?_) q.J' 0 ⟨J,h⟩) (aX J)
    ·obtain⟨m_,h⟩:=h;refine dH m_ J<|ax<|aB J<|fX J<|cM<|cM<|jK<|bj ?_;exact bj<|xR (r' :=iR) (x' :=x) (fun _ _ _ ho h=>sy (nM ho (.head _)) h)<|ce 4 J<|Zf 4 J<|aJ<|so h▸Bn J J J J J
    ·obtain⟨m_,h⟩:=h;refine dG m_ J<|aw<|am<|aB J<|aU J<|aB J<|aQ J<|cy h fun r1 Y_ h=>M (Hx (r:=jO) (rd:=iR) (T:=123) (b:=b) (x:=lP x (ak l c1 x.j'.length)) (y:=x) (.head _) afD (abm _ _ Y_) (fun _ _ _ ho h=>sy (nM ho (.tail _ (.head _))) h) (fun S S1 a Q hle hk=>uW (CY.2 (Q8 (Y J) Q hk)) (uW (Q0 (Y J) Q hle) trivial)) Kn) ?_;refine M (gz (Y J))<|cD h J (fun h=>?_) (fun h=>?_)
     ·exact aB J<|M (bL (show aG _ _ _ Sv from TD))<|fX J<|cM<|jK<|dB<|ai<|dB<|aJ<|aJ<|so h▸Bn J J J J J
     ·refine bl<|dg m_ hN1 J ?_;exact aT (aE (ih1 (i1+1) ⟨cV m_,h⟩) (aX J))
   ·obtain⟨I,h⟩:=h;refine dG I J<|aw<|am<|aB J<|dN pH nP J (dE I)<|aO nP td J fun b1=>fX J<|bv nP ae J<|aH 11 J<|bA<|aw ?_;refine au<|bg tJ mz o5 J<|eG h adz (V0 _) (cA J) fun r2 h=>aQ J<|dq J J<|dq J J<|dq J J<|fX J<|fX J<|aU J<|bc<|aQ J<|mn J<|cD h J (fun h=>?_) (fun h=>?_)
    ·exact aB J<|aQ J<|aQ J<|M (bL (show aG _ _ _ Sv from TD))<|fX J<|fX J<|bz J<|ai<|dB<|ai<|dB<|aJ<|aJ<|so h▸Bn J J J J J
    ·refine kp<|aw<|aw<|cy h fun e2 M_ h=>cy h fun r3 q_r3 h=>?_;refine eE (ts:=[_,_,_,_,_,_,_,_,_,_]) mixed J J
      ⟨fg J J,
      ⟨oU 11 J J (m9 nP J J),
      ⟨fg J J,
      ⟨fg J J,
      ⟨dy 58 3 J J (WP qt J),
      ⟨dy 59 4 J J (ij (Y J) hI),
      ⟨eQ 57 2 60 5 J J J (GN qt bK J J J M_),
      ⟨gH 6 bK J J,
      ⟨E9 55 0 56 1 62 7 J J J J (Hx (r:=jO) (rd:=iR) (T:=123) (b:=b) (x:=lP x (ak l c1 x.j'.length)) (y:=x) (.head _) afE (abn _ _ _ q_r3) (fun _ _ _ ho h=>sy (nM ho (.tail _ (.head _))) h) (fun S S1 a Q hle hk=>uW (CY.2 (Q8 (Y J) Q hk)) (uW (Q0 (Y J) Q hle) (uW (Q0 (Y J) Q hle) trivial))) Kn),
      ⟨dy 63 8 J J (gz (Y J)),
      aW⟩⟩⟩⟩⟩⟩⟩⟩⟩⟩ ?_
     refine ax<|oS h J (fun h=>?_) (fun h=>?_)
     ·exact aB J<|M (bL (show aG _ _ _ Sv from TD))<|fX J<|cM<|jK<|ai<|dB<|ai<|dB<|aJ<|aJ<|so h▸Bn J J J J J
     ·refine kp<|au<|aQ J<|aQ J<|M (aP (Y J))<|bI 2 GB J<|M (sO Q6 F9 (.head _) (.tail _ (.head _)) J (Y J))<|aQ J<|M (aI (r:=(eW oQ)) (ys:=[r2.1]) (xs:=[.tmp 71]) underlying121 ug J J J J J ⟨(Y J),aW⟩)<|bM<|cy h fun l1 q_l1 h=>uA ug J J J J underlying121 J J (Y J) (Y J) q_l1 fun l2 c2=>M (aP (Y J))<|bI 2 GB J<|bM<|f9 Q6 J (xZ _ _ _) J (Y J) (Ih (Ei (Y J)))<|bm<|dg I hN J ?_;exact aT (aE (ih (i+1) ({x with j':=l1}:df) l2 c2 ⟨cV I,h⟩) (aX J))
def ac6 p c{R}(h:um p c=some R):cN aL 8 [tD cw p,tD eH c] (tT [bX R.1,bX R.2.1,bX R.2.2]):=by
 refine dL func8 J<|aV<|cR J<|cR J<|cM<|cM<|cM<|bA<|aV<|cx qG J<|cx Cb J<|eG h adA (V1 _ _) (cA J) fun r h=>aQ J<|dq J J<|dq J J<|dq J J<|dq J J<|fX J<|fX J<|fX J ?_;exact aU J<|aB J<|aQ J<|aQ J<|fX J<|fX J<|bz J<|so h▸tY J J J J
def aa2 l{R}(h:qH l=some R):cN aL 88 [tD zY l] (tD dU R):=by
 refine dL func88 J<|aV<|aO jL mU J fun b=>bA<|aw<|aw<|cy h fun p q_p h=>cy h fun p1 q_p1 h=>cy h fun p2 q_p2 h=>cy h fun e U_ h=>?_;refine eE (ts:=[_,_,_,_,_,_,_,_,_,_,_,_,_,_,_,_,_]) mixed J J
  ⟨fg J J,
  ⟨dy 4 0 J J (iE (Y J) q_p),
  ⟨dy 5 1 J J (mj RH JJ J J),
  ⟨gH 2 Im J J,
  ⟨dy 7 3 J J (iE (Y J) q_p1),
  ⟨dy 8 4 J J (mj Li xM J J),
  ⟨dy 9 5 J J (mj wL kH J J),
  ⟨gH 6 GX J J,
  ⟨fg J J,
  ⟨dy 12 8 J J (iE (Y J) q_p2),
  ⟨dy 13 9 J J (mj GA Bf J J),
  ⟨dy 14 10 J J (mj oM gC J J),
  ⟨gH 11 bN J J,
  ⟨eQ 11 7 16 12 J J J (GN Bs yR J J J U_),
  ⟨dy 17 13 J J (mj HO wI J J),
  ⟨gH 14 bK J J,
  ⟨dy 19 15 J J (yO J),
  aW⟩⟩⟩⟩⟩⟩⟩⟩⟩⟩⟩⟩⟩⟩⟩⟩⟩ ?_
 refine ax<|aB J<|cm dI J<|M (fR (Y J) hI)<|cD h J (fun h=>?_) (fun h=>?_)
 ·exact aB J<|t7 h Ge (xv _) (cA J) fun r h l1 c=>qo<|rQ 24 J<|M (dl (y:=(⟨2,r⟩:bT)) jL Ny mU (⟨_,_,_,_,_,J,sI,J,hI,⟨_,_,_,_,_,J,Em,J,(nt (Y J)),J⟩⟩))<|bM<|bv jL ae J<|bO<|ai<|ce 2 J<|aJ<|so h▸gF J jL J J J
 ·exact kp<|aV<|M (dl (y:=(⟨1,[]⟩:bT)) jL Ny mU (⟨_,_,_,_,_,J,sI,J,hI,J⟩))<|bv jL ae J<|bO<|ce 2 J<|so h▸gF J jL J J J
def aa1 l{R}(h:p6 l=some R):cN aL 89 [tD zY l] (tD dU R):=by
 refine dL func89 J<|aV<|aO jL mU J fun b=>bA<|aw<|aw<|cy h fun p q_p h=>cy h fun p1 q_p1 h=>cy h fun p2 q_p2 h=>cy h fun e U_ h=>?_;refine lw 16 [tc (tD zY l),tc (aY oX p),tc (aY ue p.W_),tc (tD ue p.W_),tc (aY iR p1),tc (aY cw p1.c_),tc (aY Uy p1.c_.J'),tc (fI (bk) p1.c_.J'),tc (tD zY l),tc (aY oX p2),tc (aY al p2.n),tc (aY bY p2.n.M'),tc (bX p2.n.M'),tc (aY bk e),tc (tD bk e),([15],fun s=>tV (an ((s.getD 0 rs).h 0).2 0))] [false,false,false,false,false,false,false,false,false,false,false,false,false,false,false,true] [fun _=>[bx dU 89 b (⟨0,[]⟩:bT)],fun sg=>[bx bk 50 ((sg 15).h 0).2 (⟨[],0,0,[]⟩:bt),bx dU 89 b (⟨0,[]⟩:bT)]] J mixed J J J J J
  ⟨⟨[⟨0,fun _=>tD zY l,none⟩],_,0,1,J,⟨(fun _=>J),aW⟩,J,J,J,J,J,fun _ sg _ _=>aa J (kR J)⟩,
  ⟨⟨[⟨4,fun _=>tD zY l,some 0⟩],_,0,1,J,⟨(fun _=>J),aW⟩,J,J,J,J,J,fun _ sg _ _=>aa J (iE (Y J) q_p)⟩,
  ⟨⟨[⟨5,fun _=>aY oX p,some 1⟩],_,0,1,J,⟨(fun _=>J),aW⟩,J,J,J,J,J,fun _ sg _ _=>aa J (mj RH JJ J J)⟩,
  ⟨⟨[⟨6,fun _=>aY ue p.W_,some 2⟩],_,0,1,J,⟨(fun _=>J),aW⟩,J,J,J,J,J,fun _ sg _ _=>aa J (m9 Im J J)⟩,
  ⟨⟨[⟨7,fun _=>tD ue p.W_,some 3⟩],_,0,1,J,⟨(fun _=>J),aW⟩,J,J,J,J,J,fun _ sg _ _=>aa J (iE (Y J) q_p1)⟩,
  ⟨⟨[⟨8,fun _=>aY iR p1,some 4⟩],_,0,1,J,⟨(fun _=>J),aW⟩,J,J,J,J,J,fun _ sg _ _=>aa J (mj uO ku J J)⟩,
  ⟨⟨[⟨9,fun _=>aY cw p1.c_,some 5⟩],_,0,1,J,⟨(fun _=>J),aW⟩,J,J,J,J,J,fun _ sg _ _=>aa J (mj jz fv J J)⟩,
  ⟨⟨[⟨10,fun _=>aY Uy p1.c_.J',some 6⟩],_,0,1,J,⟨(fun _=>J),aW⟩,J,J,J,J,J,fun _ sg _ _=>aa J (m9 qY J J)⟩,
  ⟨⟨[⟨0,fun _=>tD zY l,none⟩],_,0,1,J,⟨(fun _=>J),aW⟩,J,J,J,J,J,fun _ sg _ _=>aa J (kR J)⟩,
  ⟨⟨[⟨12,fun _=>tD zY l,some 8⟩],_,0,1,J,⟨(fun _=>J),aW⟩,J,J,J,J,J,fun _ sg _ _=>aa J (iE (Y J) q_p2)⟩,
  ⟨⟨[⟨13,fun _=>aY oX p2,some 9⟩],_,0,1,J,⟨(fun _=>J),aW⟩,J,J,J,J,J,fun _ sg _ _=>aa J (mj GA Bf J J)⟩,
  ⟨⟨[⟨14,fun _=>aY al p2.n,some 10⟩],_,0,1,J,⟨(fun _=>J),aW⟩,J,J,J,J,J,fun _ sg _ _=>aa J (mj oM gC J J)⟩,
  ⟨⟨[⟨15,fun _=>aY bY p2.n.M',some 11⟩],_,0,1,J,⟨(fun _=>J),aW⟩,J,J,J,J,J,fun _ sg _ _=>aa J (m9 bN J J)⟩,
  ⟨⟨[⟨11,fun _=>tD Uy p1.c_.J',some 7⟩,⟨16,fun _=>tD bY p2.n.M',some 12⟩],_,0,1,J,⟨(fun _=>J),(fun _=>J),aW⟩,J,J,J,J,J,fun _ sg _ _=>aa J (GN pH nP J J J U_)⟩,
  ⟨⟨[⟨17,fun _=>aY bk e,some 13⟩],_,0,1,J,⟨(fun _=>J),aW⟩,J,J,J,J,J,fun _ sg _ _=>aa J (m9 nP J J)⟩,
  ⟨⟨[],_,J,aW,J,J,J,fun sg=>cL J (km nP td)⟩,
  aW⟩⟩⟩⟩⟩⟩⟩⟩⟩⟩⟩⟩⟩⟩⟩⟩ (fun sg=>?_)
 refine(show RG _ _ _ _ [_,_] _ from ?_);refine bv nP ae J<|aH 3 J<|bA<|aV<|bg AG sR bN J<|cz J<|cD h J (fun h=>?_) (fun h=>?_)
 ·exact aV<|bg Lf Bg bK J<|t7 h Ge (xv _) (cA J) fun r h l1 c=>qo<|rQ 24 J<|M (dl (y:=(⟨2,r⟩:bT)) jL Ny mU (⟨_,_,_,_,_,J,sI,J,hI,⟨_,_,_,_,_,J,Em,J,(nt (Y J)),J⟩⟩))<|bM<|bv jL ae J<|bO<|ai<|ce 2 J<|aJ<|so h▸gF J jL J J J
 ·exact kp<|aV<|M (dl (y:=(⟨3,[]⟩:bT)) jL Ny mU (⟨_,_,_,_,_,J,sI,J,hI,J⟩))<|bv jL ae J<|bO<|ce 2 J<|so h▸gF J jL J J J
def aa0 l{R}(h:p5 l=some R):cN aL 90 [tD zY l] (tD dU R):=by
 refine dL func90 J<|aV<|aO jL mU J fun b=>bA<|aw<|aw<|cy h fun p q_p h=>cy h fun t Z_ h=>?_;obtain⟨p1,B_,h0t⟩:=og Z_;have q_p1g:=fun K=>(B_ K).1;refine cy h fun t1 q_t1 h=>?_;obtain⟨p2,O_,h0t1⟩:=og q_t1;have q_p2g:=fun K=>(O_ K).1;obtain⟨p3,O_⟩:=WL (fun K=>(O_ K).2);have q_p3g:=fun K=>(O_ K).1;obtain⟨r,O_⟩:=WL (fun K=>(O_ K).2);have q_rg:=fun K=>(O_ K).1;refine eE (ts:=[_,_,_,_,_,_,_,_,_,_,_,_,_,_,_,_,_,_,_,_,_,_,_,_,_,_,_]) mixed J J
  ⟨fg J J,
  ⟨dy 3 0 J J (iE (Y J) q_p),
  ⟨dy 4 1 J J (mj zp wb J J),
  ⟨dy 5 2 J J (mj tI my J J),
  ⟨gH 3 bN J J,
  ⟨dy 7 4 J J (WI J),
  ⟨dy 8 5 J J (kR J),
  ⟨rn 0 9 6 J J J (cX J J J J (fun H=>kR J)),
  ⟨hY 10 7 9 6 J J J (cX J J J J (fun H=>iE (br J H) (q_p1g H))),
  ⟨hY 11 8 9 6 J J J (cX J J J J (fun H=>dP Lh J JI J (br J H))),
  ⟨hY 12 9 9 6 J J J (cX J J J J (fun H=>dP tI J my J (br J H))),
  ⟨hY 13 10 9 6 J J J (cX J J J J (fun H=>eJ bN J J (br J H))),
  ⟨hY 14 11 9 6 J J J (cX J J J J (fun H=>fc (br J H) hI)),
  ⟨eQ 9 6 15 12 J J J (dW (Y J) (fun K=>(br J K)) (fun K=>(B_ K).2) h0t),
  ⟨dy 16 13 J J (kR J),
  ⟨rn 0 17 14 J J J (cX J J J J (fun H=>kR J)),
  ⟨hY 18 15 17 14 J J J (cX J J J J (fun H=>iE (br J H) (q_p2g H))),
  ⟨hY 19 16 17 14 J J J (cX J J J J (fun H=>dP zp J wb J (br J H))),
  ⟨hY 20 17 17 14 J J J (cX J J J J (fun H=>dP zm J rf J (br J H))),
  ⟨hY 21 18 17 14 J J J (cX J J J J (fun H=>eJ bK J J (br J H))),
  ⟨rn 0 17 14 J J J (cX J J J J (fun H=>kR J)),
  ⟨hY 23 20 17 14 J J J (cX J J J J (fun H=>iE (br J H) (q_p3g H))),
  ⟨hY 24 21 17 14 J J J (cX J J J J (fun H=>dP Lh J JI J (br J H))),
  ⟨hY 25 22 17 14 J J J (cX J J J J (fun H=>dP zm J rf J (br J H))),
  ⟨hY 26 23 17 14 J J J (cX J J J J (fun H=>eJ bK J J (br J H))),
  ⟨w8 22 19 27 24 17 14 J J J J (cX J J J J (fun H=>cq Wp (HR _ _ (q_rg H)) ⟨(br J H),(br J H),aW⟩)),
  ⟨eQ 17 14 28 25 J J J (dW (Y J) (fun K=>(br J K)) (fun K=>(O_ K).2) h0t1),
  aW⟩⟩⟩⟩⟩⟩⟩⟩⟩⟩⟩⟩⟩⟩⟩⟩⟩⟩⟩⟩⟩⟩⟩⟩⟩⟩⟩ ?_
 refine ax<|oS h J (fun h=>?_) (fun h=>?_)
 ·exact aB J<|cy h fun p4 q_p4 h=>M (iE (Y J) q_p4)<|bg zp wb jL J<|bv jL ae J<|bO<|ai<|ce 2 J<|so h▸gF J jL J J J
 ·exact kp<|aV<|M (dl (y:=(⟨1,[]⟩:bT)) jL Ny mU (⟨_,_,_,_,_,J,sI,J,hI,J⟩))<|bv jL ae J<|bO<|ce 2 J<|so h▸gF J jL J J J
def RS p r_{R}(h:u5 p r_=some R):cN aL 139 [tD dU p,(iM aL GM WT (fun(x:Int)=>r_ x))] (tD dU R):=by
 refine dL func139 J<|aV<|cR J<|aO jL mU J fun b=>bA<|bc<|bg tI my bN J<|mn J<|cD h J (fun h=>?_) (fun h=>?_)
 ·exact aV<|cx jL J<|bv jL ae J<|bO<|ai<|ce 4 J<|so h▸gF J jL J J J
 ·refine kp<|aV<|cr false bY 3<|M (bL xq)<|bA<|bc<|bg zm rf bK J<|cm dI J<|M (bH hI)<|bA<|am<|aR (k:=14) J fun hN=>bE ?_;refine aE (yB (h3:=fun ls i d_ l c x=>(p.l_.drop i=ls)/\pi r_ ls d_ x=some R) (Of:=fun _ i d_ l c x=>[fa bY 3 l c d_,bx dU 89 b x]) (Gf:=fun _ i d_ l c x=>[(1,(iM aL GM WT (fun(x:Int)=>r_ x))),(4,tV (an b 0)),(5,s5 l c d_),(14,gM p.l_),(15,jg p.l_),(16,bX (i:Int))]) (fun i d_ l c x h=>?_) (fun e tl ih i d_ l c x h=>?_) p.l_ 0 vH none 0 (⟨0,[]⟩:bT) ⟨J,h⟩) (aX J)
  ·obtain⟨I,h⟩:=h;refine dH I J<|ax<|aB J<|qo<|rQ 5 J<|rQ 31 J<|M (dl (y:=(⟨2,d_⟩:bT)) jL Ny mU (⟨_,_,_,_,_,J,sI,J,hI,⟨_,_,_,_,_,J,Em,J,(nt (Y J)),J⟩⟩))<|bM<|bv jL ae J<|bA ?_;exact kM<|ce 4 J<|aJ<|so h▸gF J jL J J J
  ·obtain⟨I,h⟩:=h;refine dG I J<|aw<|am<|aV<|dN dI bN J (dE I)<|aU J<|aB J<|aQ J<|cy h fun r F_ h=>?_;refine M (kE (args:=(fun(x:Int)=>[tD bY x])) (res:=(fun(x:Int)=>tD bY x)) (f:=(fun(x:Int)=>r_ x)) (x:=((e):Int)) (Y J) F_ ⟨(Y J),aW⟩)<|aU J<|bc<|aQ J<|M (gA (Y J) hI)<|cD h J (fun h=>?_) (fun h=>?_)
   ·exact aV<|M (dl (y:=(⟨1,[]⟩:bT)) jL Ny mU (⟨_,_,_,_,_,J,sI,J,hI,J⟩))<|bM<|bv jL ae J<|bO<|ai<|dB<|ai<|dB<|ce 4 J<|aJ<|so h▸gF J jL J J J
   ·refine kp<|au<|aQ J<|aQ J<|M (aI (r:=bY) (ys:=[r]) (xs:=[.tmp 27]) dI bN J J J J J ⟨(Y J),aW⟩)<|cy h fun cols1 q_cols1 h=>ea bN J J J J dI J J (Y J) (Y J) q_cols1 fun l1 c1=>fX J<|bm<|dg I hN J ?_;exact aT (aE (ih (i+1) cols1 l1 c1 x ⟨cV I,h⟩) (aX J))
def Yt s f{R}(h:dD s f=some R):cN aL 141 [fI (cg) s,(iM aL WV qw (fun(x:bD)=>f x))] (bX R):=by
 refine dL func141 J<|aV<|cM<|bA<|bc<|aQ J<|cm s7 J<|M (bH hI)<|bA<|am<|aR (k:=6) J fun hN=>bE ?_;refine aE (fj (h3:=fun ls i=>(s.drop i=ls)/\dn f ls i=some R) (Of:=fun _ i=>[]) (Gf:=fun _ i=>[(0,fI (cg) s),(1,(iM aL WV qw (fun(x:bD)=>f x))),(7,jg s),(8,bX (i:Int))]) (fun i h=>?_) (fun e tl ih i h=>?_) s 0 ⟨J,h⟩) (aX J)
 ·obtain⟨I,h⟩:=h;exact dH I J<|ax<|aV<|jK<|so h▸aD J J
 ·obtain⟨I,h⟩:=h;refine dG I J<|aw<|am<|aB J<|aU J<|aB J<|aQ J<|aQ J<|vA s7 jM J (dE I) ?_;refine cx jM J<|cy h fun r F_ h=>M (kE (args:=WV) (res:=FY) (f:=(fun(x:bD)=>f x)) (x:=((e):bD)) (Y J) F_ ⟨(Y J),aW⟩)<|cD h J (fun h=>?_) (fun h=>?_)
  ·exact aB J<|bz J<|dB<|ai<|dB<|so h▸aD J J
  ·refine bl<|dg I hN J ?_;exact aT (aE (ih (i+1) ⟨cV I,h⟩) (aX J))
def Ys c e{R}(h:di c e=some R):cN aL 142 [tD cg e,aY bY c] (gp R):=by
 refine dL func142 J<|aV<|cR J<|bn<|bA<|aw<|cy h fun t Z_ h=>?_;obtain⟨e1,B_,h0t⟩:=og Z_;have q_e1g:=fun K=>(B_ K).1;refine cy h fun t1 q_t1 h=>?_;obtain⟨e2,O_,h0t1⟩:=og q_t1;have q_e2g:=fun K=>(O_ K).1;refine eE (ts:=[_,_,_,_,_,_,_,_,_,_,_,_,_,_,_,_,_,_,_,_,_,_]) mixed J J
  ⟨oU 2 J J (mj gI dF J J),
  ⟨gH 0 pC J J,
  ⟨dy 5 1 J J (WP oD J),
  ⟨dy 6 2 J J (WI J),
  ⟨dy 7 3 J J (kR J),
  ⟨rn 2 8 4 J J J (cX J J J J (fun H=>mj gI dF J J)),
  ⟨hY 9 5 8 4 J J J (cX J J J J (fun H=>eJ pC J J (br J H))),
  ⟨hY 10 6 8 4 J J J (cX J J J J (fun H=>aS oD hM J (br J H) hI (q_e1g H))),
  ⟨hY 11 7 8 4 J J J (cX J J J J (fun H=>dP ow J je J (br J H))),
  ⟨hY 12 8 8 4 J J J (cX J J J J (fun H=>eJ bN J J (br J H))),
  ⟨hY 13 9 8 4 J J J (cX J J J J (fun H=>fc (br J H) hI)),
  ⟨eQ 8 4 14 10 J J J (dW (Y J) (fun K=>(br J K)) (fun K=>(B_ K).2) h0t),
  ⟨dy 15 11 J J (kR J),
  ⟨rn 2 16 12 J J J (cX J J J J (fun H=>mj gI dF J J)),
  ⟨hY 17 13 16 12 J J J (cX J J J J (fun H=>eJ pC J J (br J H))),
  ⟨hY 18 14 16 12 J J J (cX J J J J (fun H=>aS oD hM J (br J H) hI (q_e2g H))),
  ⟨hY 19 15 16 12 J J J (cX J J J J (fun H=>dP rY J mL J (br J H))),
  ⟨hY 20 16 16 12 J J J (cX J J J J (fun H=>eJ bN J J (br J H))),
  ⟨rn 1 16 12 J J J (cX J J J J (fun H=>m9 bN J J)),
  ⟨w8 21 17 22 18 16 12 J J J J (cX J J J J (fun H=>fc (br J H) (br J H))),
  ⟨eQ 16 12 23 19 J J J (dW (Y J) (fun K=>(br J K)) (fun K=>(O_ K).2) h0t1),
  ⟨dy 24 20 J J (yO J),
  aW⟩⟩⟩⟩⟩⟩⟩⟩⟩⟩⟩⟩⟩⟩⟩⟩⟩⟩⟩⟩⟩⟩ ?_
 exact ax<|kM<|so h▸aD J J
def Yu l c{R}(h:rp l c=some R):cN aL 140 [bX c,aY zY l] (bX R):=by
 exact dL func140 J<|aV<|cR J<|cM<|bA<|aV<|cx Q5 J<|cy h fun p q_p h=>M (iE (Y J) q_p)<|qx GA Bf J<|bg qT lH zP J<|M ((show ck _ _ _ _ ((iM aL WV qw (fun(x:bD)=>(di c) x)))from kW (cts:=[aY bY c]) (L_:=[.tmp 2]) ad7 ⟨(Y J),aW⟩ (fun x y h=>Ys _ _ h)))<|eG h ad8 (Yt _ _) (cA J) fun r h=>bz J<|so h▸aD J J
def aaZ l{R}(h:oj l=some R):cN aL 91 [tD zY l] (tD dU R):=by
 exact dL func91 J<|aV<|cR J<|aO jL mU J fun b=>bA<|aV<|cx Q5 J<|cy h fun p q_p h=>M (iE (Y J) q_p)<|bg zp wb jL J<|M ((show ck _ _ _ _ ((iM aL GM WT (fun(x:Int)=>(rp l) x)))from kW (cts:=[aY zY l]) (L_:=[.tmp 1]) ad9 ⟨(Y J),aW⟩ (fun x y h=>Yu _ _ h)))<|eG h ZF (RS _ _) (cA J) fun r h=>bv jL ae J<|aH 2 J<|bO<|so h▸gF J jL J J J
def Yr l c{R}(h:tt l c=some R):cN aL 143 [bX c,aY zY l] (bX R):=by
 exact dL func143 J<|aV<|cM<|bA<|aV<|cx Q5 J<|cy h fun p q_p h=>M (iE (Y J) q_p)<|qx GA Bf J<|bg mf eV bK J<|aQ J<|eG h Wq (Lo _ _) (cA J) fun r h=>bz J<|so h▸aD J J
def Qg l{R}(h:jT l=some R):cN aL 92 [tD zY l] (tD dU R):=by
 exact dL func92 J<|aV<|cR J<|aO jL mU J fun b=>bA<|aV<|cx Q5 J<|cy h fun p q_p h=>M (iE (Y J) q_p)<|bg zp wb jL J<|M ((show ck _ _ _ _ ((iM aL GM WT (fun(x:Int)=>(tt l) x)))from kW (cts:=[aY zY l]) (L_:=[.tmp 1]) ad6 ⟨(Y J),aW⟩ (fun x y h=>Yr _ _ h)))<|eG h ZF (RS _ _) (cA J) fun r h=>bv jL ae J<|aH 2 J<|bO<|so h▸gF J jL J J J
def Lk l{R}(h:jS l=some R):cN aL 93 [tD zY l] (tD dU R):=by
 exact dL func93 J<|aV<|aO jL mU J fun b=>bA<|aB J<|cy h fun p q_p h=>M (iE (Y J) q_p)<|bg zp wb jL J<|bv jL ae J<|aH 2 J<|bO<|so h▸gF J jL J J J
def abl{R}(h:ol=some R):cN aL 51 [] (UR (fun y:((Option er)->Option bT)=>Io aL Kb yM (fun(x:(Option er))=>y x)) vG R):=by
 refine dL func51 J<|aV<|M (bL (show aG _ _ (.const (.map none)) (tV (.map none))from fun _ _ _=>J))<|bA<|aV<|wO (CL (fun y:((Option er)->Option bT)=>Io aL Kb yM (fun(x:(Option er))=>y x))) vG J fun b=>fe (γ:=(fun y:((Option er)->Option bT)=>Io aL Kb yM (fun(x:(Option er))=>y x))) (y:=qH) FU (dV ld) (Y J) (nQ hI) (wl (Ii afe fun x y h=>aa2 _ h)) fun os=>fe (γ:=(fun y:((Option er)->Option bT)=>Io aL Kb yM (fun(x:(Option er))=>y x))) (y:=p6) FU (dV ld) (Y J) (nQ hI) (wl (Ii afd fun x y h=>aa1 _ h)) fun os1=>fe (γ:=(fun y:((Option er)->Option bT)=>Io aL Kb yM (fun(x:(Option er))=>y x))) (y:=p5) FU (dV ld) (Y J) (nQ hI) (wl (Ii afc fun x y h=>aa0 _ h)) fun os2=>fe (γ:=(fun y:((Option er)->Option bT)=>Io aL Kb yM (fun(x:(Option er))=>y x))) (y:=oj) FU (dV ld) (Y J) (nQ hI) (wl (Ii afb fun x y h=>aaZ _ h)) fun os3=>fe (γ:=(fun y:((Option er)->Option bT)=>Io aL Kb yM (fun(x:(Option er))=>y x))) (y:=jT) FU (dV ld) (Y J) (nQ hI) (wl (Ii ab9 fun x y h=>Qg _ h)) fun os4=>fe (γ:=(fun y:((Option er)->Option bT)=>Io aL Kb yM (fun(x:(Option er))=>y x))) (y:=jT) FU (dV ld) (Y J) (nQ hI) (wl (Ii ab9 fun x y h=>Qg _ h)) fun os5=>fe (γ:=(fun y:((Option er)->Option bT)=>Io aL Kb yM (fun(x:(Option er))=>y x))) (y:=jT) FU (dV ld) (Y J) (nQ hI) (wl (Ii ab9 fun x y h=>Qg _ h)) fun os6=>fe (γ:=(fun y:((Option er)->Option bT)=>Io aL Kb yM (fun(x:(Option er))=>y x))) (y:=jS) FU (dV ld) (Y J) (nQ hI) (wl (Ii YR fun x y h=>Lk _ h)) fun os7=>fe (γ:=(fun y:((Option er)->Option bT)=>Io aL Kb yM (fun(x:(Option er))=>y x))) (y:=jS) FU (dV ld) (Y J) (nQ hI) (wl (Ii YR fun x y h=>Lk _ h)) fun os8=>fe (γ:=(fun y:((Option er)->Option bT)=>Io aL Kb yM (fun(x:(Option er))=>y x))) (y:=jS) FU (dV ld) (Y J) (nQ hI) (wl (Ii YR fun x y h=>Lk _ h)) fun os9=>fe (γ:=(fun y:((Option er)->Option bT)=>Io aL Kb yM (fun(x:(Option er))=>y x))) (y:=jS) FU (dV ld) (Y J) (nQ hI) (wl (Ii YR fun x y h=>Lk _ h)) fun os10=>aQ J<|aU J ?_;exact kM<|FQ 0 J<|so h▸aD J J
