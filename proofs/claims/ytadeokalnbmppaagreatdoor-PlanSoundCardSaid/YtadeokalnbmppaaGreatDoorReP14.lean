import Derived.Test.YtadeokalnbmppaaGreatDoorReT
import Derived.Test.YtadeokalnbmppaaGreatDoorReP13
set_option linter.all false
namespace Go.Proofs.YtadeokalnbmppaaGreatDoor
open Go IntKind Tryz EffOK
set_option maxRecDepth 100000
def V0 A'{R}(h:sk A'=some R):cN aL 28 [fI (al) A'] (tT [fI (gG) R.1,bX R.2.1,bX R.2.2]):=by
 refine dL func28 J<|aV<|lU (gG)<|cM<|cM<|bA<|Ic<|bc<|aQ J<|cm kw J<|M (gA (Y J) hI)<|aQ J<|aC J (cY J)<|aC J (fM kw J)<|aC J (fun H=>fR (br J H) hI)<|fV J<|cD h J (fun h=>?_) (fun h=>?_)
 ·exact aV<|lU (gG)<|cM<|jK<|ai<|sW<|so h▸tY J J J J
 ·refine kp<|aB J<|M (dl (r:=rH bG [(1,.slice none 0 0),(2,.slice none 0 0)]) (y:=(⟨A',[],[],⟨0,0,0,0,[],false,⟨[]⟩,[],[],[],[],0⟩,[],[],[]⟩:ap)) acI acZ (zH WN ⟨J,J,aW⟩) (⟨_,_,_,_,_,J,Ra SV J J,J,(Y J),J⟩))<|tU (Y J) J fun b=>cr true gG 40<|cr false bY 3 ?_;refine(show RG _ _ _ _ [_,_,_] _ from ?_);refine aU J<|aV<|eG h afv abf trivial fun r h=>aU J<|aV<|cM<|bA<|aw<|Id<|ax<|bc<|aQ J<|cm kw J<|M (bH hI) ?_;refine bA ?_;refine EW (h3:=fun wrong ob l c l1 c1=>uK A' wrong ob=some R) (Of:=fun wrong ob l c l1 c1=>[bx (rH bG [(1,ak l c ob.j'.length),(2,ak l1 c1 ob.D'.length)]) 145 b ob,dM gG 40 l c ob.j',fa bY 3 l1 c1 ob.D']) (Gf:=fun wrong ob l c l1 c1=>[(0,fI (al) A'),(5,tV (an b 0)),(7,bX wrong)]) (fun wrong ob l c l1 c1 h=>?_) (fun hb=>?_)
  ·skip;refine ax ?_;refine fL (h3:=fun wrong1=>uJ ob wrong1=some R) (Of:=fun wrong1=>[bx (rH bG [(1,ak l c ob.j'.length),(2,ak l1 c1 ob.D'.length)]) 145 b ob,dM gG 40 l c ob.j',fa bY 3 l1 c1 ob.D']) (Gf:=fun wrong1=>[(5,tV (an b 0)),(7,bX wrong1)]) (fun wrong1 h=>?_) (fun K1=>?_)
   ·skip;refine bc<|aQ J<|M (eT (Y J) hI)<|cD h J (fun h=>?_) (fun h=>?_)
    ·exact aB J<|lU (gG)<|fX J<|jK<|ai<|sW<|aJ<|aJ<|aJ<|so h▸tY J J J J
    ·refine kp<|aV<|cr false gG 40<|M (bL xq)<|bA<|bc<|aQ J<|M (aP (Y J))<|bI 1 Gy J<|M (fi ug J (.tail _ (.head _)) (.tail _ (.tail _ (.head _))) (Y J))<|M (iY qt (nt (Y J)))<|M (bH hI)<|bA<|am<|Um<|Un 61 J<|aR (k:=61) J fun hN=>bE ?_;refine fK<|gE<|fK<|fK ?_;refine aE (qb (h3:=fun ls i out l2 c2=>(ob.j'.drop i=ls)/\oI ls out=some R) (Of:=fun _ i out l2 c2=>[fa gG 40 l2 c2 out,bx (rH bG [(1,ak l c ob.j'.length),(2,ak l1 c1 ob.D'.length)]) 145 b ob,dM gG 40 l c ob.j',fa bY 3 l1 c1 ob.D']) (Gf:=fun _ i out l2 c2=>[(10,s5 l2 c2 out),(61,fI (gG) ob.j'),(62,jg ob.j'),(63,bX (i:Int))]) (fun i out l2 c2 h=>?_) (fun e tl ih i out l2 c2 h=>?_) ob.j' 0 ([]:List (List Int)) none 0 ⟨J,h⟩) (aX J)
     ·obtain⟨I,h⟩:=h;refine dH I J<|ax<|aB J<|fX J<|cM<|jK<|sW<|gQ ?_;exact d6 10 J<|d6 73 J<|d6 2 J<|n6 2 J<|aJ<|aJ<|aJ<|aJ<|so h▸tY J J J J
     ·obtain⟨I,h⟩:=h;refine dG I J<|aw<|am<|aV<|dN qt bK J (dE I)<|aU J<|au<|aQ J<|aQ J<|t7 h Ge (xv _) (cA J) fun r1 h l3 c3=>?_;refine qo<|rQ 69 J<|M (aI (r:=oQ) (ys:=[r1]) (xs:=[.tmp 69]) qt bK J J J J J ⟨(nt (Y J)),aW⟩)<|bM<|cy h fun g_ q_out1 h=>ea bK J J J J qt J J (Y J) (Y J) q_out1 fun l4 c4=>fX J<|bm<|dg I hN J<|bj<|aJ ?_;exact aT (aE (ih (i+1) g_ l4 c4 ⟨cV I,h⟩) (aX J))
   ·skip;refine aB J<|M (gA (Y J) hI)<|aQ J<|aj J (cY J)<|aj J (fun H=>aP (br J H))<|aj J (fun H=>bS (n:=2) vU J (br J H) J)<|aj J (fun H=>qQ bK J (.head _) (br J H))<|aj J (fun H=>iF dI (.tail _ (.tail _ (.head _))) (br J H))<|aj J (uV J)<|dx J<|cD h J (fun h=>?_) (fun h=>?_)
    ·refine au<|aQ J<|cm kw J<|M (ij (Y J) hI)<|fX J<|bm ?_;exact bQ (K1 (i64.wrap ((A'.length:Int)-1)) h) (aX J)
    ·refine bl ?_;exact bQ (K1 wrong h) (aX J)
  ·skip;refine aR (k:=25) J fun hN1=>bE<|gE<|qq ?_;refine aE (DY (h3:=fun ls1 i1 wrong2 v_ l5 c5 l6 c6=>(A'.drop i1=ls1)/\jR A' r ls1 i1 wrong2 v_=some R) (Of:=fun _ i1 wrong2 v_ l5 c5 l6 c6=>[bx (rH bG [(1,ak l5 c5 v_.j'.length),(2,ak l6 c6 v_.D'.length)]) 145 b v_,dM gG 40 l5 c5 v_.j',fa bY 3 l6 c6 v_.D']) (Gf:=fun _ i1 wrong2 v_ l5 c5 l6 c6=>[(0,fI (al) A'),(5,tV (an b 0)),(6,UR (fun y:(ap->Unit->Option (Bool×ap))=>sb (fun bb=>dK aL (fun(x:Unit)=>[tV (an bb 0)]) (fW bb) qw y)) vG r),(7,bX wrong2),(25,fI (al) A'),(26,jg A'),(27,bX (i1:Int))]) (fun i1 wrong2 v_ l5 c5 l6 c6 h=>?_) (fun e1 tl1 ih1 i1 wrong2 v_ l5 c5 l6 c6 h=>?_) A' 0 CU (⟨A',[],[],⟨0,0,0,0,[],false,⟨[]⟩,[],[],[],[],0⟩,[],[],[]⟩:ap) none 0 none 0 ⟨J,h⟩) (aX J)
   ·obtain⟨m_,h⟩:=h;refine dH m_ J ?_;exact bQ (hb wrong2 v_ l5 c5 l6 c6 h) (aX J)
   ·obtain⟨m_,h⟩:=h;refine dG m_ J<|aw<|am<|aB J<|dN kw dc J (dE m_)<|aO dc fC J fun b1=>fX J<|bv dc ae J<|aH 9 J<|bA<|aw ?_;refine au<|aQ J<|aQ J<|aQ J<|bg jy dA bN J<|M (MR (γ:=(fun y:(ap->Unit->Option (Bool×ap))=>sb (fun bb=>dK aL (fun(x:Unit)=>[tV (an bb 0)]) (fW bb) FY y))) (z:=(fun _ _=>none)) FV (dV ld) acl (fun _ _=>Ej) (Y J) (nQ (Y J)))<|cy h fun r2 q_r2 h=>nI (fr2 (fr2 (fr2 (jo (xs:=[.tmp 32,.tmp 33,.tmp 37]) (ts:=[tV (an b 0),bX (i1:Int),sb (fun bb=>dK aL (fun(x:Unit)=>[tV (an bb 0)]) (fW bb) qw ((jC r e1.Op).getD (fun _ _=>none)))]) (fW b v_ (D8 [(l5,c5),(l6,c6)])) _ J afu (ac8 b (D8 [(l5,c5),(l6,c6)]) v_ _ _ q_r2) ⟨(Y J),(Y J),(Y J),aW⟩ (fun _=>J))))) J fun i2=>?_;refine(show RG _ _ _ _ [_,_,_] ((38,gp r2.1)::_)from ?_);refine M (gz (Y J))<|cD h J (fun h=>?_) (fun h=>?_)
    ·refine aB J<|aU J<|iN<|cI J<|aN<|aN<|dY ?_;exact bQ (hb (i1:Int) r2.2 (i2.h 0).1 (i2.h 0).2 (i2.h 1).1 (i2.h 1).2 h) (aX J)
    ·refine bl<|dg m_ hN1 J ?_;exact aT (aE (ih1 (i1+1) wrong2 r2.2 (i2.h 0).1 (i2.h 0).2 (i2.h 1).1 (i2.h 1).2 ⟨cV m_,h⟩) (aX J))
def aa7 root c{R}(h:gu root c=some R):cN aL 80 [bX c,aY gG root] (gp R):=by
 refine dL func80 J<|aV<|bn<|bA<|aB J<|M (gA (Y J) hI)<|aQ J<|aC J (cY J)<|aC J (fun H=>m9 bK J J)<|aC J (fM dI J)<|aC J (fun H=>eT (br J H) (br J H))<|fV J<|aQ J<|cy h fun t Z_ h=>aC J (fun H=>m9 bK J J)<|aC J (cY J) ?_;obtain⟨e,B_,h0t⟩:=og Z_;have q_eg:=fun K=>(B_ K).1;exact aC J (fun H=>aS dI bN J (br J H) (br J H) (q_eg H))<|aC J (cG bN J J)<|aC J (iu J)<|M (iz (Y J) (fun K=>(br J (sn K))) (fun K=>(B_ K).2) h0t)<|bz J<|so h▸aD J J
def VT s f{R}(h:dS s f=some R):cN aL 95 [fI (al) s,(iM aL Bv qw (fun(x:ac)=>f x))] (bX R):=by
 refine dL func95 J<|aV<|cM<|bA<|bc<|aQ J<|cm kw J<|M (bH hI)<|bA<|am<|aR (k:=6) J fun hN=>bE ?_;refine aE (fj (h3:=fun ls i=>(s.drop i=ls)/\cC f ls i=some R) (Of:=fun _ i=>[]) (Gf:=fun _ i=>[(0,fI (al) s),(1,(iM aL Bv qw (fun(x:ac)=>f x))),(7,jg s),(8,bX (i:Int))]) (fun i h=>?_) (fun e tl ih i h=>?_) s 0 ⟨J,h⟩) (aX J)
 ·obtain⟨I,h⟩:=h;exact dH I J<|ax<|aV<|jK<|so h▸aD J J
 ·obtain⟨I,h⟩:=h;refine dG I J<|aw<|am<|aB J<|aU J<|aB J<|aQ J<|aQ J<|vA kw dc J (dE I) ?_;refine cx dc J<|cy h fun r F_ h=>M (kE (args:=Bv) (res:=FY) (f:=(fun(x:ac)=>f x)) (x:=((e):ac)) (Y J) F_ ⟨(Y J),aW⟩)<|cD h J (fun h=>?_) (fun h=>?_)
  ·exact aB J<|bz J<|dB<|ai<|dB<|so h▸aD J J
  ·refine bl<|dg I hN J ?_;exact aT (aE (ih (i+1) ⟨cV I,h⟩) (aX J))
def aa6 s f{R}(h:fE s f=some R):cN aL 81 [fI (al) s,(iM aL Bv qw (fun(x:ac)=>f x))] (gp R):=by
 exact dL func81 J<|aV<|bn<|bA<|aB J<|aQ J<|eG h ads (VT _ _) (cA J) fun r h=>M (eT (Y J) hI)<|bz J<|so h▸aD J J
def aa4 s1 s2 eq{R}(h:ef s1 s2 eq=some R):cN aL 83 [gM s1,fI (ev) s2,(iM aL (fun(x:Int×cc)=>[bX x.1,tD ev x.2]) qw (fun(x:Int×cc)=>eq x.1 x.2))] (gp R):=by
 refine dL func83 J<|aV<|bn<|bA<|bc<|aQ J<|cm dI J<|aQ J<|cm yI J<|M (jV (Y J) (Y J))<|cD h J (fun h=>?_) (fun h=>?_)
 ·exact aV<|bn<|bO<|ai<|so h▸aD J J
 ·refine kp<|bc<|aQ J<|cm dI J<|M (bH hI)<|bA<|am<|aR (k:=15) J fun hN=>bE ?_;refine aE (fj (h3:=fun ls i=>(s1.drop i=ls)/\dk s2 eq ls i=some R) (Of:=fun _ i=>[]) (Gf:=fun _ i=>[(1,fI (ev) s2),(2,(iM aL (fun(x:Int×cc)=>[bX x.1,tD ev x.2]) qw (fun(x:Int×cc)=>eq x.1 x.2))),(15,gM s1),(16,jg s1),(17,bX (i:Int))]) (fun i h=>?_) (fun e tl ih i h=>?_) s1 0 ⟨J,h⟩) (aX J)
  ·obtain⟨I,h⟩:=h;exact dH I J<|ax<|aV<|bn<|bO<|so h▸aD J J
  ·obtain⟨I,h⟩:=h;refine dG I J<|aw<|am<|aB J<|dN dI bN J (dE I)<|fX J<|aU J<|aB J ?_;refine aQ J<|cy h fun e1 s_ h=>dN yI uX J s_<|aO uX sF J fun b=>bv uX ae J<|aH 9 J<|bA<|aB J<|aQ J<|cx uX J<|cy h fun r F_ h=>M (kE (args:=(fun(x:Int×cc)=>[tD bY x.1,tD ev x.2])) (res:=FY) (f:=(fun(x:Int×cc)=>eq x.1 x.2)) (x:=((e,e1):Int×cc)) (Y J) F_ ⟨(Y J),(Y J),aW⟩)<|M (gz (Y J))<|cD h J (fun h=>?_) (fun h=>?_)
   ·exact aV<|bn<|bO<|dB<|ai<|dB<|so h▸aD J J
   ·refine bl<|dg I hN J ?_;exact aT (aE (ih (i+1) ⟨cV I,h⟩) (aX J))
def aa3 k c{R}(h:nL k c=some R):cN aL 84 [bX k,tD ev c] (gp R):=by
 exact dL func84 J<|aV<|cR J<|bn<|bA<|aB J<|bg Qc AC bN J<|M (fc (Y J) (Y J))<|bz J<|so h▸aD J J
def aa5 f p n{R}(h:mO f p n=some R):cN aL 82 [tD al n,aY bk f,aY ue p] (gp R):=by
 refine dL func82 J<|aV<|cR J<|bn<|bA<|bc<|bg jy dA bN J<|mn J<|cD h J (fun h=>?_) (fun h=>?_)
 ·exact aV<|bn<|bO<|ai<|so h▸aD J J
 ·refine kp<|aw<|aw<|cy h fun t Z_ h=>?_;obtain⟨p1,B_,h0t⟩:=og Z_;have q_p1g:=fun K=>(B_ K).1;refine eE (ts:=[_,_,_,_,_,_,_,_,_,_,_,_,_,_]) mixed J J
   ⟨oU 1 J J (mj AH sS J J),
   ⟨gH 0 bN J J,
   ⟨dy 9 1 J J (zni J),
   ⟨dy 10 2 J J (kR J),
   ⟨rn 3 11 3 J J J (ga J J J J (fun H=>mj oM gC J J)),
   ⟨hY 12 4 11 3 J J J (ga J J J J (fun H=>eJ bN J J (br J H))),
   ⟨rn 2 11 3 J J J (ga J J J J (fun H=>m9 Im J J)),
   ⟨hY 14 6 11 3 J J J (ga J J J J (fun H=>iE (br J H) (q_p1g H))),
   ⟨hY 15 7 11 3 J J J (ga J J J J (fun H=>dP Li J xM J (br J H))),
   ⟨hY 16 8 11 3 J J J (ga J J J J (fun H=>dP wL J kH J (br J H))),
   ⟨hY 17 9 11 3 J J J (ga J J J J (fun H=>eJ GX J J (br J H))),
   ⟨hY 18 10 11 3 J J J (ga J J J J (fun H=>iY Bs (br J H))),
   ⟨w8 13 5 19 11 11 3 J J J J (ga J J J J (fun H=>eT (br J H) (br J H))),
   ⟨eQ 11 3 20 12 J J J (iz (Y J) (fun K=>(br J (sn K))) (fun K=>(B_ K).2) h0t),
   aW⟩⟩⟩⟩⟩⟩⟩⟩⟩⟩⟩⟩⟩⟩ ?_
  refine ax<|oS h J (fun h=>?_) (fun h=>?_)
  ·exact aV<|bn<|bO<|ai<|so h▸aD J J
  ·refine kp<|aw<|cy h fun p2 q_p2 h=>cy h fun e U_ h=>cy h fun r F_ h=>?_;refine eE (ts:=[_,_,_,_,_,_,_,_,_,_,_,_,_,_,_]) mixed J J
    ⟨oU 3 J J (mj oL gY J J),
    ⟨gH 0 bK J J,
    ⟨oU 2 J J (m9 Im J J),
    ⟨dy 24 2 J J (iE (Y J) q_p2),
    ⟨dy 25 3 J J (mj Li xM J J),
    ⟨dy 26 4 J J (mj wL kH J J),
    ⟨gH 5 GX J J,
    ⟨oU 3 J J (mj oM gC J J),
    ⟨gH 7 bN J J,
    ⟨eQ 28 6 30 8 J J J (GN Bs yR J J J U_),
    ⟨dy 31 9 J J (mj zn pS J J),
    ⟨gH 10 Kl J J,
    ⟨eQ 23 1 33 11 J J J (cq afg (aa4 _ _ _ F_) ⟨(Y J),(Y J),(Ii aff fun x y h=>aa3 _ _ h),aW⟩),
    ⟨dy 34 12 J J (gz (Y J)),
    ⟨dy 35 13 J J (yO J),
    aW⟩⟩⟩⟩⟩⟩⟩⟩⟩⟩⟩⟩⟩⟩⟩ ?_
   exact ax<|kM<|so h▸aD J J
def abn p f root{R}(h:qA p f root=some R):cN aL 49 [tD ue p,tD bk f,gM root] (gp R):=by
 refine dL func49 J<|aV<|cR J<|cR J<|cR J<|bn<|bA<|bc<|bg AH sS bN J<|mn J<|aQ J<|aj J (cZ AH sS J J)<|aj J (cG bN J J)<|aj J (uV J)<|dx J<|aQ J<|aC J (cZ AG sR J J)<|aC J (cG bN J J)<|aC J (fun H=>gA (br J H) hI) ?_;refine fV J<|aQ J<|aC J (cZ AG sR J J)<|aC J (cG bN J J)<|aC J (fun H=>fR (br J H) hI)<|fV J<|aQ J<|aC J (cZ AG sR J J)<|aC J (cG bN J J)<|aC J (iu J)<|aC J (cZ Lf Bg J J)<|aC J (cG bK J J)<|aC J (fM dI J)<|aC J (fun H=>fR (br J H) hI)<|aC J (fun H=>Xx QU (br J H) (br J H))<|fV J<|aQ J<|aC J (cZ Lf Bg J J)<|aC J (cG bK J J)<|aC J (fM dI J)<|aC J (fun H=>fR (br J H) hI)<|fV J<|bA ?_;refine oS h J (fun h=>?_) (fun h=>?_)
 ·exact aV<|bn<|bO<|ai<|so h▸aD J J
 ·refine kp<|bc<|bg Lf Bg bK J<|M ((show ck _ _ _ _ ((iM aL GM qw (fun(x:Int)=>(gu root) x)))from kW (cts:=[aY gG root]) (L_:=[.tmp 5]) afj ⟨(Y J),aW⟩ (fun x y h=>aa7 _ _ h)))<|eG h TZ (EJ _ _) (cA J) fun r h=>cD h J (fun h=>?_) (fun h=>?_)
  ·exact aV<|bn<|bO<|ai<|so h▸aD J J
  ·exact kp<|aV<|bg tJ mz o5 J<|M ((show ck _ _ _ _ ((iM aL Bv qw (fun(x:ac)=>(mO f p) x)))from kW (cts:=[aY bk f,aY ue p]) (L_:=[.tmp 4,.tmp 3]) afh ⟨(Y J),(Y J),aW⟩ (fun x y h=>aa5 _ _ _ h)))<|eG h afi (aa6 _ _) (cA J) fun r1 h=>M (gz (Y J))<|bz J<|so h▸aD J J
def VV p w_{R}(h:mq p w_=some R):cN aL 85 [tD ue p,bX w_] (gM R):=by
 refine dL func85 J<|aV<|lU bY<|bA<|aB J<|cy h fun p1 q_p1 h=>M (iE (Y J) q_p1)<|bg GB BW Q6 J<|aQ J<|cy h fun e U_ h=>dN underlying121 ug J U_<|aU J<|aB J<|aQ J ?_;exact cm qt J<|M (ij (Y J) hI)<|cy h fun e1 s_ h=>dN qt bK J s_<|bz J<|so h▸aD J J
def abm p r_{R}(h:pO p r_=some R):cN aL 50 [tD ue p,bX r_] (gp R):=by
 refine DU func50 J J J fun w0 S0=>aV<|cR J<|bn<|bA<|aV<|cx Im J<|cy h fun p1 q_p1 h=>M (iE (Y J) q_p1)<|qx uO ku J<|bg jz fv qY J<|aQ J<|cy h fun e U_ h=>dN pH nP J U_<|aO nP td J fun b=>bv nP ae J<|aH 5 J<|bA ?_;refine bc<|bg tJ mz o5 J<|cm kw J<|M (bH hI)<|bA<|am<|aR (k:=20) J fun hN=>bE ?_;refine aE (fj (h3:=fun ls i=>(e.u'.drop i=ls)/\jF p r_ e ls=some R) (Of:=fun _ i=>[]) (Gf:=fun _ i=>[(1,bX r_),(2,aY ue p),(5,aY bk e),(20,fI (al) e.u'),(21,jg e.u'),(22,bX (i:Int))]) (fun i h=>?_) (fun e1 tl ih i h=>?_) e.u' 0 ⟨J,h⟩) (aX J)
 ·obtain⟨I,h⟩:=h;refine dH I J<|ax<|aV<|aO (r:=bY) (x:=0) bN (fun _=>J) J fun b1=>aO (r:=rB) (x:=false) I0 (fun _=>J) J fun b2=>bM<|dZ bN J ae J (Y J) hI<|bM<|dZ I0 J ae J (Y J) hB<|bA<|aw ?_;refine aV<|cx Im J<|cy h fun p2 q_p2 h=>M (iE (Y J) q_p2)<|bg uO ku qG J<|aQ J<|cy h fun it q_it h=>EQ adu (RJ _ _ q_it) ⟨(Y J),(Y J),aW⟩ J fun v fp=>bA<|am<|cy h fun s q_s h=>?_;refine J3 (fun(i:Bool×Int)=>[bx rB 4 b2 i.1,bx bY 3 b1 i.2]) (fun(i:Bool×Int)=>(i.1,i.2)) J (Y J) (false,0) J q_s (fun _=>J) J (fun i x s2 h lp rec1 _ _ _=>?_) (fun i hi bd=>?_)
  ·obtain⟨one,many⟩:=i
   replace h:lj p x one many=some s2:=h
   refine(show CG _ _ _ [yd lp rec1 .ready,bx rB 4 b2 one,bx bY 3 b1 many] _ from ?_);refine ET (G' :=[(1,bX r_),(2,aY ue p),(5,aY bk e),(8,tV (an b1 0)),(9,tV (an b2 0)),(20,fI (al) e.u'),(21,jg e.u'),(22,bX (i:Int)),(23,gp (decide ((i:Int)<(e.u'.length:Int)))),(46,tD ue p),(47,aY iR p2),(48,aY cw p2.c_),(49,tD cw p2.c_),(50,bX r_),(52,bX x.1),(53,bX x.2)]) ?_ ⟨J,J,J,J,J,J,J,J,J,J,J,J,J,J,J,J,aW⟩;refine au<|fX J<|bm<|OA<|am<|aV<|M (ay bN J J bC (.tail _ (.tail _ (.head _))) (Y J))<|M (nT (Y J) hI)<|gi<|bv bN ae J<|bA<|au<|cx Im J<|cy h fun p3 q_p3 h=>M (iE (Y J) q_p3)<|qx uO ku J<|bg jz fv qY J<|aQ J<|cy h fun e2 M_ h=>vA pH nP J M_<|qx AH sS J ?_;refine cx bN J<|cz J<|gi<|bv I0 ae J<|bm<|bf<|bj<|bj<|ah ?_;exact AV ((e2.At==2),(i64.wrap (many+1))) (so h) J
  ·skip;obtain⟨x1,x2⟩:=i;have hi:(x1,x2)=s:=hi;subst hi;dsimp only at h;refine(show AT _ _ _ [Gb bd,bx rB 4 b2 x1,bx bY 3 b1 x2] _ from ?_);refine bQ (G' :=[(1,bX r_),(2,aY ue p),(5,aY bk e),(8,tV (an b1 0)),(9,tV (an b2 0)),(20,fI (al) e.u'),(21,jg e.u'),(22,bX (i:Int)),(23,gp (decide ((i:Int)<(e.u'.length:Int)))),(46,tD ue p),(47,aY iR p2),(48,aY cw p2.c_),(49,tD cw p2.c_),(50,bX r_)]) ?_ ⟨J,J,J,J,J,J,J,J,J,J,J,J,J,J,aW⟩;refine bf<|ax<|bc<|aQ J<|cx Im J<|cy h fun p4 q_p4 h=>M (iE (Y J) q_p4)<|qx uO ku J<|bg jz fv qY J<|cm pH J<|M (ij (Y J) hI)<|M (fc (Y J) (Y J))<|cD h J (fun h=>?_) (fun h=>?_)
   ·refine aV<|bg AG sR bN J<|cz J<|aQ J<|aj J (cZ AH sS J J)<|aj J (cG bN J J)<|aj J (iu J)<|dx J<|aQ J<|aj J (fun H=>ay bN J J bC (.tail _ (.tail _ (.head _))) (Y J))<|aj J (iu J)<|dx J<|aQ J<|cy h fun t Z_ h=>aj J (fun H=>m9 Im J J)<|aj J (cY J) ?_;obtain⟨r,B_,h0t⟩:=og Z_;have q_rg:=fun K=>(B_ K).1;refine aj J (fun H=>cq adv (VV _ _ (q_rg H)) ⟨(br J H),(br J H),aW⟩) ?_;obtain⟨r1,B_⟩:=WL (fun K=>(B_ K).2);have q_r1g:=fun K=>(B_ K).1;exact aj J (fun H=>cq aca (Qh _ _ (q_r1g H)) ⟨(br J H),hI,aW⟩)<|aj J (wj J)<|M (dW (Y J) (fun K=>(br J K)) (fun K=>(B_ K).2) h0t)<|bz J<|ai<|bj<|aJ<|bj<|aJ<|zB<|tX<|so h▸aD J J
   ·refine kp<|aV<|bg AG sR bN J<|mn J<|aQ J<|aj J (fun H=>ay bN J J bC (.tail _ (.tail _ (.head _))) (Y J))<|aj J (iu J)<|dx J<|aQ J<|aj J (cZ AG sR J J)<|aj J (cG bN J J)<|aj J (iu J)<|aj J (fun H=>ay I0 J J bC (.tail _ (.head _)) (Y J))<|aj J (fun H=>Xy QU (br J H) (br J H))<|dx J<|bz J<|bj<|aJ ?_;exact bj<|aJ<|zB<|tX<|so h▸aD J J
 ·obtain⟨I,h⟩:=h;refine dG I J<|aw<|am<|aV<|dN kw dc J (dE I)<|aO dc fC J fun b3=>bv dc ae J<|aH 7 J<|bA<|aw<|cy h fun t1 q_t1 h=>?_;obtain⟨t2,O_,h0t1⟩:=og q_t1;have q_t2g:=fun K=>(O_ K).1;obtain⟨r2,h1t2,h0t2⟩:=og3 q_t2g;have q_r2g:=fun K=>(h1t2 K).1;obtain⟨r3,h1t2⟩:=WL (fun K=>(h1t2 K).2);have q_r3g:=fun K=>(h1t2 K).1;refine eE (ts:=[_,_,_,_,_,_,_,_,_,_,_,_,_,_,_,_,_,_,_]) mixed J J
   ⟨oU 7 J J (mj jy dA J J),
   ⟨gH 0 bN J J,
   ⟨dy 27 1 J J (WI J),
   ⟨dy 28 2 J J (kR J),
   ⟨rn 7 29 3 J J J (cX J J J J (fun H=>mj oM gC J J)),
   ⟨hY 30 4 29 3 J J J (cX J J J J (fun H=>eJ bN J J (br J H))),
   ⟨rn 1 29 3 J J J (cX J J J J (fun H=>kR J)),
   ⟨w8 31 5 32 6 29 3 J J J J (cX J J J J (fun H=>eT (br J H) (br J H))),
   ⟨hY 33 7 29 3 J J J (cX J J J J (fun H=>bH (br J H))),
   ⟨rn 7 34 8 J J J (xz J J J J (fun H=>mj oL gY J J)),
   ⟨hY 35 9 34 8 J J J (xz J J J J (fun H=>eJ bK J J (br J H))),
   ⟨rn 2 34 8 J J J (xz J J J J (fun H=>m9 Im J J)),
   ⟨rn 7 34 8 J J J (xz J J J J (fun H=>mj oM gC J J)),
   ⟨hY 38 12 34 8 J J J (xz J J J J (fun H=>eJ bN J J (br J H))),
   ⟨w8 37 11 39 13 34 8 J J J J (xz J J J J (fun H=>cq adv (VV _ _ (q_r2g H)) ⟨(br J H),(br J H),aW⟩)),
   ⟨w8 36 10 40 14 34 8 J J J J (xz J J J J (fun H=>cq Wp (HR _ _ (q_r3g H)) ⟨(br J H),(br J H),aW⟩)),
   ⟨hY 41 15 34 8 J J J (xz J J J J (fun H=>gz (br J H))),
   ⟨w8 34 8 42 16 29 3 J J J J (cX J J J J (fun H=>iz (br J H) (fun K=>(br J (wY H (sn K)))) (fun K=>(h1t2 (wY H K)).2) (fun K=>h0t2 H K))),
   ⟨eQ 29 3 43 17 J J J (dW (Y J) (fun K=>(br J K)) (fun K=>(O_ K).2) h0t1),
   aW⟩⟩⟩⟩⟩⟩⟩⟩⟩⟩⟩⟩⟩⟩⟩⟩⟩⟩⟩ ?_
  refine ax<|oS h J (fun h=>?_) (fun h=>?_)
  ·exact aV<|bn<|bO<|dB<|ai<|dB<|tX<|so h▸aD J J
  ·refine bl<|dg I hN J ?_;exact aT (aE (ih (i+1) ⟨cV I,h⟩) (aX J))
