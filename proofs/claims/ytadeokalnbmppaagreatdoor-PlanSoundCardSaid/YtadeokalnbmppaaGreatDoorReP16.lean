import Derived.Test.YtadeokalnbmppaaGreatDoorReT
import Derived.Test.YtadeokalnbmppaaGreatDoorReP15
set_option linter.all false
namespace Go.Proofs.YtadeokalnbmppaaGreatDoor
open Go Tryz
set_option maxRecDepth 100000
def X1 p w_{R}(h:lA p w_=some R):mi aL 24 [tD ue p,bX w_] false dU 89 R:=by
 refine mi.of func24 J J J fun w0 S0=>aV<|cr false dU 89<|M (bL xq)<|bA<|aB J<|cy h fun p1 q_p1 h=>M (iE (Y J) q_p1)<|qx uO ku J<|bg jz fv qY J<|aQ J<|cy h fun e U_ h=>dN pH nP J U_<|aO nP td J fun b=>bv nP ae J<|aH 5 J<|bA ?_;refine aV<|cr false dU 89<|M (bL xq)<|bA<|aV<|eG h afC abl trivial fun r h=>aU J<|bc<|bg tJ mz o5 J<|cm kw J<|M (bH hI)<|bA<|am<|aR (k:=22) J fun hN=>?_;refine bE<|gE<|r0 ?_;refine aE (qb (h3:=fun ls i out l c=>(e.u'.drop i=ls)/\bu p e r ls out=some R) (Of:=fun _ i out l c=>[fa dU 89 l c out]) (Gf:=fun _ i out l c=>[(0,tD ue p),(5,aY bk e),(6,s5 l c out),(7,UR (fun y:((Option er)->Option bT)=>Io aL Kb yM (fun(x:(Option er))=>y x)) vG r),(22,fI (al) e.u'),(23,jg e.u'),(24,bX (i:Int))]) (fun i out l c h=>?_) (fun e1 tl ih i out l c h=>?_) e.u' 0 ([]:List bT) none 0 ⟨J,h⟩) (aX J)
 ·obtain⟨I,h⟩:=h;exact dH I J<|ax<|aB J<|bz J<|so h▸lR J J
 ·obtain⟨I,h⟩:=h;refine dG I J<|aw<|am<|aV<|dN kw dc J (dE I)<|aO dc fC J fun b1=>bv dc ae J<|aH 9 J<|bA<|aB J ?_;refine cx dc J<|M (dl (y:=(⟨p,e1,⟨0,[]⟩,⟨0,[]⟩⟩:er)) acJ ac0 WM (⟨_,_,_,_,_,J,SR,J,(Y J),⟨_,_,_,_,_,J,SQ,J,(Y J),J⟩⟩))<|tU (Y J) J fun b2=>aU J ?_;refine fL (h3:=fun x=>gq e r (bu p e r tl) e1 out x=some R) (Of:=fun x=>[fa dU 89 l c out,bx oX 130 b2 x]) (Gf:=fun x=>[(0,tD ue p),(5,aY bk e),(6,s5 l c out),(7,UR (fun y:((Option er)->Option bT)=>Io aL Kb yM (fun(x:(Option er))=>y x)) vG r),(9,aY al e1),(10,tV (an b2 0)),(22,fI (al) e.u'),(23,jg e.u'),(24,bX (i:Int))]) (fun x h=>?_) (fun hb=>?_)
  ·skip;refine fL (h3:=fun x1=>iw e r (bu p e r tl) e1 out x1=some R) (Of:=fun x1=>[fa dU 89 l c out,bx oX 130 b2 x1]) (Gf:=fun x1=>[(0,tD ue p),(5,aY bk e),(6,s5 l c out),(7,UR (fun y:((Option er)->Option bT)=>Io aL Kb yM (fun(x:(Option er))=>y x)) vG r),(9,aY al e1),(10,tV (an b2 0)),(22,fI (al) e.u'),(23,jg e.u'),(24,bX (i:Int))]) (fun x1 h=>?_) (fun K1=>?_)
   ·skip;refine aV<|M (dl (y:=(⟨4,[]⟩:bT)) jL Ny mU (⟨_,_,_,_,_,J,sI,J,hI,J⟩))<|aO jL mU J fun b3=>bv jL ae J<|bA ?_;refine fL (h3:=fun x2=>ll (bu p e r tl) out x2=some R) (Of:=fun x2=>[fa dU 89 l c out,bx dU 89 b3 x2]) (Gf:=fun x2=>[(0,tD ue p),(5,aY bk e),(6,s5 l c out),(7,UR (fun y:((Option er)->Option bT)=>Io aL Kb yM (fun(x:(Option er))=>y x)) vG r),(11,tV (an b3 0)),(22,fI (al) e.u'),(23,jg e.u'),(24,bX (i:Int))]) (fun x2 h=>?_) (fun K2=>?_)
    ·skip;refine au<|aQ J<|M (ay jL J J bC (.tail _ (.head _)) (Y J))<|M (aI (r:=dU) (ys:=[x2]) (xs:=[.tmp 65]) BK jL J J J J J ⟨(Y J),aW⟩)<|cy h fun g_ q_out1 h=>ea jL J J J J BK J J (Y J) (Y J) q_out1 fun l1 c1=>fX J<|bm<|dg I hN J<|bj<|aJ ?_;exact aT (aE (ih (i+1) g_ l1 c1 ⟨cV I,h⟩) (aX J))
    ·skip;refine aV<|bg AH sS bN J<|cz J<|cD h J (fun h=>?_) (fun h=>?_)
     ·refine au<|aQ J<|bg jy dA bN J<|M (MS (args:=Kb) (res:=yM) (F:=(fun y:((Option er)->Option bT)=>(fun(x:(Option er))=>y x))) FU (dV ld) acm (Y J) (nQ (Y J)))<|aQ J<|gi<|aH 62 J<|Y7 62 J<|cy h fun r1 Y_ h=>M (Th (args:=Kb) (res:=yM) (f:=(fun z=>((jC r e1.Op)).bind fun y=>((fun(x:(Option er))=>y x)) z)) (x:=(((some x1)):(Option er))) (hFo (Y J)) Y_ ⟨(Y J),aW⟩)<|bv jL ae J<|bm<|bj ?_;exact bQ (K2 r1 h) (aX J)
     ·refine bl<|ah<|aJ<|bj ?_;exact bQ (K2 (⟨4,[]⟩:bT) h) (aX J)
   ·skip;refine aV<|bg oN jd bN J<|M (eT (Y J) hI)<|cD h J (fun h=>?_) (fun h=>?_)
    ·refine au<|aQ J<|aQ J<|bg oN jd bN J<|cy h fun e2 M_ h=>M (c9 BK jL (.head _) (Y J) (Y J) M_)<|M (il (r:=dU) (i:=e1.B) (J_:=0) jL J J bC J (.head _) M_ (Y J))<|M (aP (Y J))<|bI 15 Lh J<|bM<|bv jL SO J<|bm<|bj ?_;exact bQ (K1 (er.mk x.W_ x.n x.a_ e2) h) (aX J)
    ·refine bl ?_;exact bQ (K1 x h) (aX J)
  ·skip;refine aV<|bg j8 d8 bN J<|M (eT (Y J) hI)<|cD h J (fun h=>?_) (fun h=>?_)
   ·refine au<|aQ J<|aQ J<|bg j8 d8 bN J<|cy h fun e3 P_ h=>M (c9 BK jL (.tail _ (.head _)) (Y J) (Y J) P_)<|M (il (r:=dU) (i:=e1.A) (J_:=0) jL J J bC J (.tail _ (.head _)) P_ (Y J))<|M (aP (Y J))<|bI 13 zp J<|bv jL SP J<|bm<|bj ?_;exact bQ (hb (er.mk p e1 e3 ⟨0,[]⟩) h) (aX J)
   ·refine bl<|bj ?_;exact bQ (hb (⟨p,e1,⟨0,[]⟩,⟨0,[]⟩⟩:er) h) (aX J)
def aaY place n{R}(h:jt place n=some R):cN aL 96 [tD al n,aY bY place] (gp R):=by
 exact dL func96 J<|aV<|cR J<|bn<|bA<|aV<|bg j8 d8 bN J<|cx bN J<|M (fc (Y J) (Y J))<|aQ J<|aC J (cZ oN jd J J)<|aC J (cG bN J J)<|aC J (fun H=>m9 bN J J)<|aC J (fun H=>fc (br J H) (br J H))<|fV J<|bz J<|so h▸aD J J
def VZ p w_{R}(h:kD p w_=some R):cN aL 52 [tD ue p,bX w_] (tD al R):=by
 refine dL func52 J<|aV<|aO dc fC J fun b=>bA<|aB J<|cy h fun p1 q_p1 h=>M (iE (Y J) q_p1)<|bg uO ku qG J<|aQ J<|eG h adt (VU _ _) (cA J) fun r h=>aQ J<|dq J J<|dq J J<|dq J J<|aO (r:=bY) (x:=0) bN (fun _=>J) J fun b1=>fX J<|bv bN ae J<|aH 6 J ?_;refine aU J<|bc<|aQ J<|M (gz (Y J))<|cD h J (fun h=>?_) (fun h=>?_)
 ·exact aV<|M (dl dc TF fC J)<|bv dc ae J<|bO<|ai<|ce 4 J<|so h▸gF J dc J J J
 ·refine kp<|aB J<|cy h fun p2 q_p2 h=>M (iE (Y J) q_p2)<|qx uO ku J<|bg jz fv qY J<|aQ J<|cy h fun e U_ h=>vA pH nP J U_<|bg tJ mz o5 J<|M ((show ck _ _ _ _ ((iM aL Bv qw (fun(x:ac)=>(jt r.2.1) x)))from kW (cts:=[aY bY r.2.1]) (L_:=[.tmp 6]) afa ⟨(Y J),aW⟩ (fun x y h=>aaY _ _ h)))<|eG h ads (VT _ _) (cA J) fun r1 h=>aU J<|bc ?_;refine aQ J<|M (gA (Y J) hI)<|cD h J (fun h=>?_) (fun h=>?_)
  ·exact aV<|M (dl dc TF fC J)<|bv dc ae J<|bO<|ai<|ce 4 J<|so h▸gF J dc J J J
  ·exact kp<|aB J<|cy h fun p3 q_p3 h=>M (iE (Y J) q_p3)<|qx uO ku J<|bg jz fv qY J<|aQ J<|cy h fun e1 s_ h=>vA pH nP J s_<|bg tJ mz o5 J<|aQ J<|cy h fun e2 M_ h=>dN kw dc J M_<|bv dc ae J<|bO<|ce 4 J<|so h▸gF J dc J J J
def abk s1 s2 eq{R}(h:d5 s1 s2 eq=some R):cN aL 53 [fI (eg) s1,fI (eg) s2,(iM aL Z2 qw (fun(x:fh×fh)=>eq x.1 x.2))] (gp R):=by
 refine dL func53 J<|aV<|bn<|bA<|bc<|aQ J<|cm oP J<|aQ J<|cm oP J<|M (jV (Y J) (Y J))<|cD h J (fun h=>?_) (fun h=>?_)
 ·exact aV<|bn<|bO<|ai<|so h▸aD J J
 ·refine kp<|bc<|aQ J<|cm oP J<|M (bH hI)<|bA<|am<|aR (k:=15) J fun hN=>bE ?_;refine aE (fj (h3:=fun ls i=>(s1.drop i=ls)/\da s2 eq ls i=some R) (Of:=fun _ i=>[]) (Gf:=fun _ i=>[(1,fI (eg) s2),(2,(iM aL Z2 qw (fun(x:fh×fh)=>eq x.1 x.2))),(15,fI (eg) s1),(16,jg s1),(17,bX (i:Int))]) (fun i h=>?_) (fun e tl ih i h=>?_) s1 0 ⟨J,h⟩) (aX J)
  ·obtain⟨I,h⟩:=h;exact dH I J<|ax<|aV<|bn<|bO<|so h▸aD J J
  ·obtain⟨I,h⟩:=h;refine dG I J<|aw<|am<|aB J<|dN oP oT J (dE I)<|aO oT vo J fun b=>fX J<|bv oT ae J<|aH 8 J<|bA<|aw ?_;refine au<|aQ J<|aQ J<|cy h fun e1 s_ h=>dN oP oT J s_<|aO oT vo J fun b1=>bv oT ae J<|aH 9 J<|bA<|aB J<|cx oT J<|cx oT J<|cy h fun r F_ h=>M (kE (args:=Z2) (res:=FY) (f:=(fun(x:fh×fh)=>eq x.1 x.2)) (x:=((e,e1):fh×fh)) (Y J) F_ ⟨(Y J),(Y J),aW⟩)<|M (gz (Y J))<|cD h J (fun h=>?_) (fun h=>?_)
   ·exact aV<|bn<|bO<|dB<|ai<|dB<|so h▸aD J J
   ·refine bl<|dg I hN J ?_;exact aT (aE (ih (i+1) ⟨cV I,h⟩) (aX J))
def abj p y{R}(h:lZ p y=some R):cN aL 54 [tD eg p,tD eg y] (gp R):=by
 exact dL func54 J<|aV<|cR J<|cR J<|bn<|bA<|aV<|bg rq mR bN J<|bg rq mR bN J<|M (fc (Y J) (Y J))<|bz J<|so h▸aD J J
def abi n a1 b left{R}(h:qJ n a1 b left=some R):cN aL 55 [tD al n,tD dU a1,tD dU b,bX left] (gp R):=by
 refine dL func55 J<|aV<|cR J<|cR J<|cR J<|bn<|bA<|bc<|bg tI my bN J<|cz J<|cD h J (fun h=>?_) (fun h=>?_)
 ·exact aV<|bg tI my bN J<|mn J<|bz J<|ai<|so h▸aD J J
 ·refine kp<|bc<|bg tI my bN J<|mn J<|aQ J<|aC J (cZ tI my J J)<|aC J (cG bN J J)<|aC J (uV J)<|fV J<|aQ J<|aC J (cZ zm rf J J)<|aC J (cG bK J J)<|aC J (fM dI J)<|aC J (cZ zm rf J J)<|aC J (cG bK J J)<|aC J (fM dI J)<|aC J (fun H=>jV (br J H) (br J H))<|fV J<|aQ J<|cy h fun t Z_ h=>?_;refine aC J (cZ tK mK J J)<|aC J (cG jM J J) ?_;obtain⟨r,B_,h0t⟩:=og Z_;have q_rg:=fun K=>(B_ K).1;refine aC J (fun H=>cq adr (VS _ (q_rg H)) ⟨(br J H),aW⟩)<|aC J (wj J)<|M (iz (Y J) (fun K=>(br J (sn K))) (fun K=>(B_ K).2) h0t)<|cD h J (fun h=>?_) (fun h=>?_)
  ·exact aV<|bn<|bO<|ai<|so h▸aD J J
  ·refine kp<|aV<|Oe (fun y:Bool=>gp y) Tq J fun b1=>aU J<|bc<|bg tK mK jM J<|t7 h adq (RI _) (cA J) fun r1 h l c=>M (iF s7 (.head _) (Y J))<|M (bH hI)<|bA<|am<|oB (.head _) fun hN=>bE ?_;refine aE (qc (h3:=fun ls i held=>(r1.drop i=ls)/\ph a1 b left ls held=some R) (Of:=fun _ i held=>[fa cg 43 l c r1,Nc (fun y:Bool=>gp y) Tq b1 held]) (Gf:=fun _ i held=>[(3,bX left),(5,aY dU a1),(6,aY dU b),(9,tV (ni b1)),(48,s5 l c r1),(49,jg r1),(50,bX (i:Int))]) (fun i held h=>?_) (fun e tl ih i held h=>?_) r1 0 ([]:List ((Int×Int)×Bool)) ⟨J,h⟩) (aX J)
   ·obtain⟨I,h⟩:=h;refine dH I J<|ax<|bc<|bg zm rf bK J<|cm dI J<|M (bH hI)<|bA<|am<|aR (k:=68) J fun hN1=>?_;refine bE<|r0 ?_;refine aE (fj (h3:=fun ls1 i1=>(a1.l_.drop i1=ls1)/\qI b held ls1 i1=some R) (Of:=fun _ i1=>[Nc (fun y:Bool=>gp y) Tq b1 held]) (Gf:=fun _ i1=>[(5,aY dU a1),(6,aY dU b),(9,tV (ni b1)),(69,jg a1.l_),(70,bX (i1:Int))]) (fun i1 h=>?_) (fun e1 tl1 ih1 i1 h=>?_) a1.l_ 0 ⟨J,h⟩) (aX J)
    ·obtain⟨m_,h⟩:=h;exact dH m_ J<|ax<|aV<|bn<|bO<|aJ<|so h▸aD J J
    ·obtain⟨m_,h⟩:=h;refine dG m_ J<|aw<|am<|aB J<|aU J<|aw<|cy h fun e2 M_ h=>?_;refine eE (ts:=[_,_,_,_,_,_,_,_,_,_,_,_,_,_]) mixed J J
      ⟨fg J J,
      ⟨oU 5 J J (mj zm rf J J),
      ⟨gH 1 bK J J,
      ⟨fg J J,
      ⟨eQ 75 2 76 3 J J J (GN dI bN J J J (dE m_)),
      ⟨gH 4 bN J J,
      ⟨oU 6 J J (mj zm rf J J),
      ⟨gH 6 bK J J,
      ⟨fg J J,
      ⟨eQ 80 7 81 8 J J J (GN dI bN J J J M_),
      ⟨gH 9 bN J J,
      ⟨eQ 78 5 83 10 J J J (uo (r:=bY) (ys:=[e1,e2]) (xs:=[.tmp 78,.tmp 83]) Ea bN J xY J J ⟨(Y J),(Y J),aW⟩),
      ⟨eQ 73 0 84 11 J J J (PD (γ:=fun y:Bool=>tD rB y) (z:=false) underlying186 (zf Ea ld bN J RV) zv4 (fun S=>⟨_,J,(fun _=>J) S⟩) (.head _) (Y J) (Vv (Y J))),
      ⟨dy 85 12 J J (gz (Y J)),
      aW⟩⟩⟩⟩⟩⟩⟩⟩⟩⟩⟩⟩⟩⟩ ?_
     refine ax<|oS h J (fun h=>?_) (fun h=>?_)
     ·exact aV<|bn<|bO<|dB<|ai<|dB<|aJ<|so h▸aD J J
     ·refine bl<|dg m_ hN1 J ?_;exact aT (aE (ih1 (i1+1) ⟨cV m_,h⟩) (aX J))
   ·obtain⟨I,h⟩:=h;refine dG I J<|aw<|am<|aV<|M (c9 s7 jM (.head _) (Y J) (Y J) (dE I))<|M (il (r:=cg) (i:=(i:Int)) (J_:=0) jM J J bC J (.head _) (dE I) (Y J))<|aO jM te J fun b2=>bv jM ae J<|aH 11 J<|bA<|aV<|cx jM J ?_;refine aQ J<|eG h adp (VR _ _) (cA J) fun r2 h=>aQ J<|dq J J<|dq J J<|dq J J<|fX J<|fX J<|aU J<|aB J<|cD h J (fun h=>?_) (fun h=>?_)
    ·refine au<|aQ J<|aQ J<|aQ J<|M (uo (r:=bY) (ys:=[r2.1,r2.2.1]) (xs:=[.tmp 63,.tmp 64]) Ea bN J xY J J ⟨(Y J),(Y J),aW⟩)<|bM<|Y0 (γ:=fun y:Bool=>gp y) underlying186 (zf Ea ld bN J RV) (Y J) (Vv (Y J)) hB<|bm<|dg I hN J<|bj ?_;exact aT (aE (ih (i+1) (dC held (k2 ([r2.1,r2.2.1])) true) ⟨cV I,h⟩) (aX J))
    ·refine bl<|dg I hN J ?_;exact aT (aE (ih (i+1) held ⟨cV I,h⟩) (aX J))
def YI keys c{R}(h:qK keys c=some R):cN aL 100 [bX c,aY gG keys] (gp R):=by
 exact dL func100 J<|aV<|bn<|bA<|aV<|cx bK J<|aQ J<|eG h aca (Qh _ _) (cA J) fun r h=>M (gz (Y J))<|bz J<|so h▸aD J J
def abh a1 keys{R}(h:tu a1 keys=some R):cN aL 56 [tD dU a1,gM keys] (gp R):=by
 refine dL func56 J<|aV<|cR J<|cR J<|bn<|bA<|aV<|bg tI my bN J<|cz J<|aQ J<|cy h fun t Z_ h=>aj J (cZ zm rf J J)<|aj J (cG bK J J)<|aj J (fun H=>(show ck _ _ _ _ ((iM aL GM qw (fun(x:Int)=>(qK keys) x)))from kW (cts:=[aY gG keys]) (L_:=[.tmp 3]) aeI ⟨(Y J),aW⟩ (fun x y h=>YI _ _ h))) ?_;obtain⟨r,B_,h0t⟩:=og Z_;have q_rg:=fun K=>(B_ K).1;exact aj J (fun H=>cq TZ (EJ _ _ (q_rg H)) ⟨(br J H),(br J H),aW⟩)<|aj J (wj J)<|M (dW (Y J) (fun K=>(br J K)) (fun K=>(B_ K).2) h0t)<|bz J<|so h▸aD J J
def abg s1 s2{R}(h:hZ s1 s2=some R):cN aL 57 [fI (kz) s1,fI (kz) s2] (gp R):=by
 refine dL func57 J<|aV<|bn<|bA<|bc<|aQ J<|cm Bt J<|aQ J<|cm Bt J<|M (jV (Y J) (Y J))<|cD h J (fun h=>?_) (fun h=>?_)
 ·exact aV<|bn<|bO<|ai<|so h▸aD J J
 ·refine kp<|bc<|aQ J<|cm Bt J<|M (bH hI)<|bA<|am<|aR (k:=11) J fun hN=>bE ?_;refine aE (fj (h3:=fun ls i=>(s1.drop i=ls)/\eP s2 ls i=some R) (Of:=fun _ i=>[]) (Gf:=fun _ i=>[(0,fI (kz) s1),(1,fI (kz) s2),(12,jg s1),(13,bX (i:Int))]) (fun i h=>?_) (fun e tl ih i h=>?_) s1 0 ⟨J,h⟩) (aX J)
  ·obtain⟨I,h⟩:=h;exact dH I J<|ax<|aV<|bn<|bO<|so h▸aD J J
  ·obtain⟨I,h⟩:=h;refine dG I J<|aw<|am<|aB J<|aU J<|aw<|cy h fun e1 s_ h=>?_;refine eE (ts:=[_,_,_,_,_,_,_,_,_]) mixed J J
    ⟨fg J J,
    ⟨fg J J,
    ⟨eQ 16 0 17 1 J J J (GN Bt Fc J J J (dE I)),
    ⟨gH 2 Fc J J,
    ⟨fg J J,
    ⟨fg J J,
    ⟨eQ 20 4 21 5 J J J (GN Bt Fc J J J s_),
    ⟨gH 6 Fc J J,
    ⟨eQ 19 3 23 7 J J J (Gr adn (Y J) (Y J)),
    aW⟩⟩⟩⟩⟩⟩⟩⟩⟩ ?_
   refine ax<|oS h J (fun h=>?_) (fun h=>?_)
   ·exact aV<|bn<|bO<|dB<|ai<|dB<|so h▸aD J J
   ·refine bl<|dg I hN J ?_;exact aT (aE (ih (i+1) ⟨cV I,h⟩) (aX J))
def aby p w_ r_ l{R}(h:pN p w_ r_ l=some R):cN aL 25 [tD ue p,bX w_,bX r_,fI (dU) l] (gp R):=by
 refine dL func25 J<|aV<|bn<|bA<|aB J<|cy h fun p1 q_p1 h=>M (iE (Y J) q_p1)<|qx uO ku J<|bg jz fv qY J<|aQ J<|cy h fun e U_ h=>dN pH nP J U_<|aO nP td J fun b=>bv nP ae J<|aH 9 J<|bA<|aw ?_;refine au<|bg tJ mz o5 J<|aQ J<|cy h fun e1 s_ h=>dN kw dc J s_<|aO dc fC J fun b1=>bv dc ae J<|aH 10 J<|bA ?_;refine J1 (h3:=li p w_ l e e1=some R) (Of:=[]) (Gf:=[(0,tD ue p),(1,bX w_),(3,fI (dU) l),(9,aY bk e),(10,aY al e1)]) (fun h=>?_) (fun hb=>?_)
 ·skip;refine bc<|bg AH sS bN J<|cz J<|aQ J<|aC J (cZ j8 d8 J J)<|aC J (cG bN J J)<|aC J (fun H=>gA (br J H) hI)<|fV J<|cD h J (fun h=>?_) (fun h=>?_)
  ·exact aV<|bn<|bO<|ai<|so h▸aD J J
  ·refine kp<|aB J<|bg j8 d8 bN J<|cy h fun e2 M_ h=>dN BK jL J M_<|aO jL mU J fun b2=>bv jL ae J<|aH 13 J<|bA<|bc<|bg jy dA bN J<|bA<|am<|aw ?_;refine au<|cz J<|aU J<|oS h J (fun h=>?_) (fun h=>?_)
   ·refine aw<|cy h fun e3 P_ h=>cy h fun p2 q_p2 h=>cy h fun e4 q_e4 h=>cy h fun e5 q_e5 h=>cy h fun r F_ h=>?_;refine eE (ts:=[_,_,_,_,_,_,_,_,_,_,_,_,_,_,_,_,_,_,_,_,_]) mixed J J
     ⟨oU 10 J J (m9 dc J J),
     ⟨oU 13 J J (m9 jL J J),
     ⟨fg J J,
     ⟨oU 10 J J (mj oN jd J J),
     ⟨gH 3 bN J J,
     ⟨eQ 74 2 76 4 J J J (GN BK jL J J J P_),
     ⟨gH 5 jL J J,
     ⟨fg J J,
     ⟨dy 79 7 J J (iE (Y J) q_p2),
     ⟨dy 80 8 J J (mj GB BW J J),
     ⟨gH 9 Q6 J J,
     ⟨fg J J,
     ⟨eQ 82 10 83 11 J J J (GN underlying121 ug J J J q_e4),
     ⟨gH 12 ug J J,
     ⟨oU 10 J J (mj j8 d8 J J),
     ⟨gH 14 bN J J,
     ⟨eQ 85 13 87 15 J J J (GN qt bK J J J q_e5),
     ⟨gH 16 bK J J,
     ⟨dy 89 17 J J (WP dI J),
     ⟨⟨[⟨72,_,some 0⟩,⟨73,_,some 1⟩,⟨78,_,some 6⟩,⟨90,_,some 18⟩],_,J,⟨J,J,J,J,aW⟩,J,J,aa J (cq afz (abi _ _ _ _ F_) ⟨(Y J),(Y J),(Y J),(Y J),aW⟩)⟩,
     ⟨dy 91 19 J J (yO J),
     aW⟩⟩⟩⟩⟩⟩⟩⟩⟩⟩⟩⟩⟩⟩⟩⟩⟩⟩⟩⟩⟩ ?_
    exact ax<|kM<|dB<|so h▸aD J J
   ·refine aV<|cz J<|aU J<|oS h J (fun h=>?_) (fun h=>?_)
    ·refine aV<|bg tI my bN J<|mn J<|aQ J<|cy h fun t Z_ h=>aj J (cY J)<|aj J (cZ oN jd J J)<|aj J (cG bN J J) ?_;obtain⟨e6,B_,h0t⟩:=og Z_;have q_e6g:=fun K=>(B_ K).1;exact aj J (fun H=>aS BK jL J (br J H) (br J H) (q_e6g H))<|aj J (fun H=>dP tI J my J (br J H))<|aj J (cG bN J J)<|aj J (uV J)<|M (dW (Y J) (fun K=>(br J K)) (fun K=>(B_ K).2) h0t)<|bz J<|dB<|so h▸aD J J
    ·refine fL (h3:=fun x=>lh p w_ e e1 e2 x=some R) (Of:=fun x=>[]) (Gf:=fun x=>[(0,tD ue p),(1,bX w_),(9,aY bk e),(10,aY al e1),(13,aY dU e2),(69,bX e1.Op),(106,gp x)]) (fun x h=>?_) (fun K1=>?_)
     ·skip;refine oS h J (fun h=>?_) (fun h=>?_)
      ·exact aV<|cx jL J<|bg mf eV bK J<|eG h afy (abh _ _) (cA J) fun r1 h=>bz J<|dB<|so h▸aD J J
      ·refine aV<|cz J<|aU J<|oS h J (fun h=>?_) (fun h=>?_)
       ·exact aV<|bg tI my bN J<|cz J<|bz J<|dB<|so h▸aD J J
       ·refine aV<|cz J<|aU J<|oS h J (fun h=>?_) (fun h=>?_)
        ·exact aV<|bg tI my bN J<|mn J<|bz J<|dB<|so h▸aD J J
        ·refine aV<|cz J<|aU J<|oS h J (fun h=>?_) (fun h=>?_)
         ·refine aB J<|aQ J<|eG h ady (VZ _ _) (cA J) fun r2 h=>aO dc fC J fun b3=>bv dc ae J<|aH 14 J<|bA<|aV<|bg tI my bN J<|mn J<|aQ J<|aj J (cZ AG sR J J)<|aj J (cG bN J J)<|aj J (iu J)<|dx J<|aQ J<|aj J (cZ jy dA J J)<|aj J (cG bN J J) ?_;refine aj J (iu J)<|dx J<|aQ J<|aj J (cZ vT pD J J)<|aj J (cG bN J J)<|aj J (cZ vT pD J J)<|aj J (cG bN J J)<|aj J (fun H=>fc (br J H) (br J H))<|dx J<|aQ J<|cy h fun t1 q_t1 h=>aj J (cZ rX m8 J J)<|aj J (cG F2 J J)<|aj J (cZ rX m8 J J)<|aj J (cG F2 J J) ?_;obtain⟨r3,O_,h0t1⟩:=og q_t1;have q_r3g:=fun K=>(O_ K).1;exact aj J (fun H=>cq afx (abg _ _ (q_r3g H)) ⟨(br J H),(br J H),aW⟩)<|M (dW (Y J) (fun K=>(br J K)) (fun K=>(O_ K).2) h0t1)<|bz J<|dB<|so h▸aD J J
         ·exact bl<|bf<|ax<|aV<|bn<|bO<|so h▸aD J J
     ·skip;refine aV<|cz J<|aU J<|oS h J (fun h=>?_) (fun h=>?_)
      ·refine bl ?_;exact bQ (K1 (e1.Op==4) h) (aX J)
      ·refine au<|cz J<|fX J<|bm ?_;exact bQ (K1 (e1.Op==11) h) (aX J)
 ·skip;refine aV<|bg jy dA bN J<|cz J<|cD h J (fun h=>?_) (fun h=>?_)
  ·refine aB J<|aQ J<|eG h ady (VZ _ _) (cA J) fun r4 h=>aO dc fC J fun b4=>bv dc ae J<|aH 11 J<|bA<|aV<|bg kI fH tm J<|bg kI fH tm J<|eG h afB (abk _ _ _) ⟨(Y J),(Y J),(Ii afA fun x y h=>abj _ _ h),aW⟩ fun r5 h=>aU J<|aV ?_;refine bg jy dA bN J<|mn J<|aQ J<|aC J (cY J)<|aC J (wj J)<|fV J<|aQ J<|aC J (cZ mf eV J J)<|aC J (cG bK J J)<|aC J (fM dI J)<|aC J (cZ mf eV J J)<|aC J (cG bK J J)<|aC J (fM dI J)<|aC J (fun H=>jV (br J H) (br J H))<|fV J<|cD h J (fun h=>?_) (fun h=>?_)
   ·exact aV<|bn<|bO<|ai<|so h▸aD J J
   ·refine bl ?_;exact bQ (hb h) (aX J)
  ·refine bl ?_;exact bQ (hb h) (aX J)
