/- cT of this claim: P17. -/
import Derived.Test.YtdohlidddcgfjaaGreatFaT
import Derived.Test.YtdohlidddcgfjaaGreatFaP16
set_option linter.all false
namespace Go.Proofs.YtdohlidddcgfjaaGreat
open Go
set_option maxRecDepth 100000

theorem HU(n:ap)(parts:(List (List Int))){R:(List Int)×Bool}(h:du n parts=some R):bk ba 94 [tD aJ n,dM (iW) parts] (tT [iK R.1,fx R.2]):=by
 refine bk.of Tryz.func94 I I I fun w0 S0=>aj<|wL (ht I) I fun b=>zo I (aN (show aK _ _ _ qN from iE))<|zo I (dd)<|ai<|aj<|cd true aJ 89<|bJ (r:=lW) (x:=nH (⟨[]⟩:dh) (ax none 0 (([]:List ap).length))) Cp G9 I fun b1=>ai<|aa<|aj<|av I<|zo I (d5 rN I)<|zo I (bm hI)<|ai<|ak<|aT (k:=14) I fun hN=>?_;refine bn<|dB<|dB<|po ?_;refine aD (wc (Z:=fun ls i n1 l l1 c=>(parts.drop i=ls)∧bP ls i n1 l=some R) (Of:=fun _ i n1 l l1 c=>[bx aJ 89 b n1,bx lW 93 b1 (nH l (ax l1 c l.Nodes.length)),tip aJ 89 l1 c l.Nodes]) (Gf:=fun _ i n1 l l1 c=>[(2,tV (aL b 0)),(6,tV (aL b1 0)),(14,dM (iW) parts),(15,iB parts),(16,cb (i:Int))]) (fun i n1 l l1 c h=>?_) (fun e tl ih i n1 l l1 c h=>?_) parts 0 n ({(⟨[]⟩:dh)with Nodes:=([]:List ap)}:dh) none 0 ⟨I,h⟩) (aR I)
 ·obtain⟨hx,h⟩:=h
  refine aq<|aj<|zo I (ek I I)<|ai<|aa<|bu (ht I) (de hx)<|bc ?_;refine M (M (aC ?_));refine af<|aj<|zo rfl (fe 0 m1 rfl rfl rfl)<|zo rfl (kz ox oq (.tail _ (.head _)) (.tail _ (.tail _ (.head _))) rfl (ht rfl))<|zo rfl (br ej rfl rfl cA (.head _) (ht rfl))<|zo rfl (aH (r:=aJ) (ys:=[n1]) (xs:=[.tmp 71]) ji ej I I I I I ⟨(ht I),aZ⟩)<|kE<|bA h fun l2 q_l2 h=>mh ej I I I I ji I I (ht I) (ht I) q_l2 fun l3 c1=>zo I (fe 0 m1 I I I)<|kE<|gc ox I (qO _ _ _) I (ht I) (EX (vr (ht I)))<|ai<|aj<|bT<|zo I (xw (q:=j5) (y:=({l with Nodes:=l2}:dh)) Cp I I I I (.tail _ (.head _)) (fun _ _ _ ho h=>Am (oR ho (.head _)) h) (ht I))<|zo I (fe 0 m1 I I I)<|zo I (kz ox oq (.tail _ (.head _)) (.head _) I (ht I))<|zo I (bw ji (io (ht I)))<|zo I (dG (ht I) hI)<|bA h fun r q_r h=>?_;refine zo I (aG ME (OL _ _ q_r) ⟨(ht I),(ht I),aZ⟩)<|zo I (nj I I)<|zo I (nj I I)<|aS I<|aS I<|ai<|ah<|aX<|aX<|aX ?_;cases so h;exact bQ I I I
 ·obtain⟨hx,h⟩:=h
  refine aq<|aj<|zo I (ek I I)<|ai<|aa<|bt (ht I) (cX hx)<|dk<|aa<|ak<|aj<|av I<|zo I (gI rN bV I I I (cS hx))<|zo I (bf bV I I)<|aS I<|aS I<|ai<|aa<|aj ?_;refine av I<|bA h fun r1 q_r1 h=>zo I (aG Uk (ON _ q_r1) ⟨(ht I),aZ⟩)<|ai<|bR h I (fun h=>?_) (fun h=>?_)
  ·refine aj<|zo I (aN (show aK _ _ _ qN from iE))<|zo I (dd)<|ai<|ah ?_;refine J (au (J (J (au (J ?_)))));refine aX<|aX<|aX ?_;cases so h;exact bQ I I I
  ·refine dk<|aj<|zo I (aH (r:=cq) (ys:=[(1:Int),(2:Int),(3:Int)]) (xs:=[.const (.int .i64 (1)),.const (.int .i64 (2)),.const (.int .i64 (3))]) cR bp I I I I I ⟨hI,hI,hI,aZ⟩)<|zo I (fX (y:=M2) ej SS iX (⟨_,_,_,_,_,I,ug,I,hI,⟨_,_,_,_,_,I,A9,I,hI,⟨_,_,_,_,_,I,A8,I,hI,⟨_,_,_,_,_,I,Hm,I,(ht I),I⟩⟩⟩⟩))<|bJ (r:=aJ) (x:=DK) ej (fun _=>iX _) I fun b2=>aQ ej I aY I (ht I) (ht I)<|bE 9 I<|ai<|aj<|zo I (fe 0 m1 I I I)<|zo I (kz ox oq (.tail _ (.head _)) (.tail _ (.tail _ (.head _))) I (ht I))<|zo I (bw ji (io (ht I)))<|cd true bL 84<|zo I (fX (y:=nI (⟨(5:Int),(l.Nodes.length:Int),xR,(0:Int),[],false,u0,[],[],[],[],(0:Int)⟩:ap) (ax none 0 (([]:List bv).length))) ej SS AO (⟨_,_,_,_,_,I,DW,I,hI,⟨_,_,_,_,_,I,DV,I,(ht I),⟨_,_,_,_,_,I,DU,I,hI,I⟩⟩⟩))<|cd true bL 84<|bJ (r:=j4) (x:=nI DK (ax none 0 (([]:List bv).length))) ej AO I fun b3=>kE<|bT<|gc ej I (p8 I) I (ht I) (ht I)<|kE ?_;refine wK<|ai<|aa<|aj<|av I<|zo I (d5 cR I)<|zo I (bm hI)<|ai<|ak<|aT (k:=29) I fun hN1=>bn<|dB<|dB<|zy<|zy<|zy ?_;refine aD (gF (Z:=fun ls1 i1 p l4 c2=>(e.drop i1=ls1)∧dw (bP tl) i n1 l ls1 p=some R) (Of:=fun _ i1 p l4 c2=>[bx aJ 89 b n1,bx lW 93 b1 (nH l (ax l1 c l.Nodes.length)),tip aJ 89 l1 c l.Nodes,bx j4 89 b3 (nI p (ax l4 c2 p.Items.length)),tip bL 84 l4 c2 p.Items]) (Gf:=fun _ i1 p l4 c2=>[(2,tV (aL b 0)),(6,tV (aL b1 0)),(7,cb (i:Int)),(9,ce aJ M2),(10,tV (aL b3 0)),(14,dM (iW) parts),(15,iB parts),(16,cb (i:Int)),(29,iK e),(30,iB e),(31,cb (i1:Int))]) (fun i1 p l4 c2 h=>?_) (fun e1 tl1 ih1 i1 p l4 c2 h=>?_) e 0 ({(⟨(5:Int),(l.Nodes.length:Int),xR,(0:Int),[],false,u0,[],[],[],[],(0:Int)⟩:ap)with Items:=([]:List bv)}:ap) none 0 ⟨I,h⟩) (aR I)
   ·obtain⟨hx1,h⟩:=h
    refine aq<|aj<|zo I (ek I I)<|ai<|aa<|bu (ht I) (de hx1)<|bc ?_;refine M (M (aC ?_));refine af<|aj<|zo rfl (fe 0 m1 rfl rfl rfl)<|zo rfl (kz ox oq (.tail _ (.head _)) (.tail _ (.tail _ (.head _))) rfl (ht rfl))<|zo rfl (bf ej rfl rfl)<|zw<|zo rfl (xw (q:=aJ) (y:=p) ej I I I I (.tail _ (.tail _ (.tail _ (.tail _ (.head _))))) (fun _ _ _ ho h=>An (oR ho (.head _)) h) (ht I))<|zo I (aH (r:=aJ) (ys:=[M2,p]) (xs:=[.tmp 51,.tmp 52]) ji ej I I I I I ⟨(ht I),(ht I),aZ⟩)<|ju<|bA h fun l5 q_l5 h=>mh ej I I I I ji I I (ht I) (ht I) q_l5 fun l6 c3=>zo I (fe 0 m1 I I I)<|ju<|gc ox I (qO _ _ _) I (ht I) (EX (vr (ht I)))<|ai<|aj<|av I<|zo I (d6 I)<|ai<|bR h I (fun h=>?_) (fun h=>?_)
    ·refine ae<|zo I (fe 0 m1 I I I)<|zo I (kz ox oq (.head _) (.tail _ (.head _)) I (ht I))<|zo I (bw ji (io (ht I)))<|zo I (dG (ht I) hI)<|zo I (fe 1 lh I I I)<|ju<|aQ bp I A9 I (ht I) (ht I)<|ay<|ac<|af<|ae<|zo rfl (jL (cy hx hN) rfl)<|av rfl<|ay<|bX<|aX<|bX<|aX ?_;exact aM (aD (ih (i+1) (ap.mk n1.Op (IntKind.i64.wrap ((l5.length:Int)-(1:Int))) n1.B n1.Table n1.Kinds n1.Left n1.Cond n1.Keys n1.Aggs n1.Items n1.Order n1.Limit) ({l with Nodes:=l5}:dh) l6 c3 ⟨cx hx,h⟩) (aR I))
    ·refine ae<|zo I (fe 0 m1 I I I)<|zo I (kz ox oq (.head _) (.tail _ (.head _)) I (ht I))<|zo I (bw ji (io (ht I)))<|zo I (dG (ht I) hI)<|zo I (fe 2 m3 I I I)<|ju<|aQ bp I A8 I (ht I) (ht I)<|ay<|ac<|af<|ae<|zo rfl (jL (cy hx hN) rfl)<|av rfl<|ay<|bX<|aX<|bX<|aX ?_;exact aM (aD (ih (i+1) (ap.mk n1.Op n1.A (IntKind.i64.wrap ((l5.length:Int)-(1:Int))) n1.Table n1.Kinds n1.Left n1.Cond n1.Keys n1.Aggs n1.Items n1.Order n1.Limit) ({l with Nodes:=l5}:dh) l6 c3 ⟨cx hx,h⟩) (aR I))
   ·obtain⟨hx1,h⟩:=h
    refine aq<|aj<|zo I (ek I I)<|ai<|aa<|bt (ht I) (cX hx1)<|dk<|aa<|ak<|aj<|zo I (gI cR bp I I I (cS hx1))<|zo I (bf bp I I)<|aS I<|ai<|aj<|zo I (fX (y:=(⟨(1:Int),(0:Int),(0:Int),(0:Int),DH⟩:bC)) eb PA lp (⟨_,_,_,_,_,I,Ba,I,hI,I⟩))<|bJ (r:=bG) (x:=AQ) eb (fun _=>lp _) I fun b4=>aQ eb I aY I (ht I) (ht I) ?_;refine ai ?_;refine dj (Z:=fun e2=>kI (dw (bP tl) i n1 l tl1) p e2=some R) (Of:=fun e2=>[bx aJ 89 b n1,bx bG 160 b4 e2,bx lW 93 b1 (nH l (ax l1 c l.Nodes.length)),tip aJ 89 l1 c l.Nodes,bx j4 89 b3 (nI p (ax l4 c2 p.Items.length)),tip bL 84 l4 c2 p.Items]) (Gf:=fun e2=>[(2,tV (aL b 0)),(6,tV (aL b1 0)),(7,cb (i:Int)),(9,ce aJ M2),(10,tV (aL b3 0)),(13,tV (aL b4 0)),(14,dM (iW) parts),(15,iB parts),(16,cb (i:Int)),(29,iK e),(30,iB e),(31,cb (i1:Int))]) (fun e2 h=>?_) (fun K=>?_)
    ·skip
     obtain⟨r2,q_r2,h⟩:=bs h
     refine q6 5 (ts:=[tV (aL b3 9),tO bL l4 c2 p.Items,tD bG e2,tD bL r2,dM (bL) ([r2])]) mixed I I I
      ⟨im 10 I I I (fe 9 m2 I I I),
      ⟨dQ 41 0 I I I (kz u4 Ep (.tail _ (.tail _ (.tail _ (.tail _ (.head _))))) (.tail _ (.tail _ (.tail _ (.tail _ (.tail _ (.head _)))))) I (ht I)),
      ⟨im 13 I I I (br eb I I cA (.tail _ (.head _)) (ht I)),
      ⟨dQ 43 2 I I I (aG Uj (OM _ _ q_r2) ⟨(ht I),iE,aZ⟩),
      ⟨dQ 44 3 I I I (aH (r:=bL) (ys:=[r2]) (xs:=[.tmp 44]) pr fv I I I I I ⟨(ht I),aZ⟩),
      aZ⟩⟩⟩⟩⟩ ?_
     refine Dz<|bA h fun l7 q_l7 h=>mh fv I I I I pr I I (ht I) (ht I) q_l7 fun l8 c4=>zo I (fe 9 m2 I I I)<|Dz<|gc u4 I (vt _ _ _) I (ht I) (EX (vr (ht I)))<|ay<|ac<|af<|ae<|zo rfl (jL (cy hx1 hN1) rfl)<|av rfl<|ay<|bX<|aX<|aV<|aV<|gA<|gA<|gA ?_;exact aM (aD (ih1 (i1+1) ({p with Items:=l7}:ap) l8 c4 ⟨cx hx1,h⟩) (aR I))
    ·skip
     refine aj<|av I<|zo I (cH (ht I) hI)<|ai<|bR h I (fun h=>?_) (fun h=>?_)
     ·refine ae<|av I<|zo I (dG (ht I) hI)<|zo I (fX (y:=(⟨(2:Int),(0:Int),(0:Int),(IntKind.i64.wrap (e1-(1:Int))),DH⟩:bC)) eb PA lp (⟨_,_,_,_,_,I,Ba,I,hI,⟨_,_,_,_,_,I,Hn,I,(ht I),I⟩⟩))<|aQ eb I aY I (ht I) (ht I)<|ay<|mY<|mY<|mY<|mY<|gA<|mY ?_;exact bD (K (⟨(2:Int),(0:Int),(0:Int),(IntKind.i64.wrap (e1-(1:Int))),DH⟩:bC) h) (aR I)
     ·refine aP<|mY<|mY<|mY<|mY<|gA<|mY ?_;exact bD (K (⟨(1:Int),(0:Int),(0:Int),(0:Int),DH⟩:bC) h) (aR I)

theorem NK(n:ap)(kinds:(List Int)){R:(List Int)}(h:mH n kinds=some R):eN ba 95 [tD aJ n,iK kinds] false cq 3 R:=by
 refine eN.of Tryz.func95 I I I fun w0 S0=>aj<|zo I (kp I)<|cd false cq 3<|zo I (aN sf)<|ai<|aj<|ge (r:=cq) (ys:=sr) (xs:=[]) cR bp I I I I I trivial I fun l c=>av I<|bA h fun out q_out h=>be bp I I I I cR I I (ht I) (ht I) q_out fun l1 c1=>aS I<|ai<|aa<|aj<|zo I (aU fM cz I I)<|zo I (bf nd I I)<|zo I (d5 jR I)<|zo I (bm hI) ?_;refine ai<|ak<|aT (k:=12) I fun hN=>bn<|dB<|jv ?_;refine aD (q5 (Z:=fun ls i out1=>(n.Aggs.drop i=ls)∧jU n ls i out1=some R) (Of:=fun _ i out1=>[df cq 3 l1 c1 out1]) (Gf:=fun _ i out1=>[(2,ce aJ n),(5,oY l1 c1 out1),(12,dM (eQ) n.Aggs),(13,iB n.Aggs),(14,cb (i:Int))]) (fun i out1 h=>?_) (fun e tl ih i out1 h=>?_) n.Aggs 0 out ⟨I,h⟩) (aR I)
 ·obtain⟨hx,h⟩:=h
  refine aq<|aj<|zo I (ek I I)<|ai<|aa<|bu (ht I) (de hx)<|bc ?_;refine M (M (aC ?_));refine af<|aj<|av rfl<|aS rfl<|ai<|ah ?_;cases so h;exact dL I I
 ·obtain⟨hx,h⟩:=h
  refine aq<|aj<|zo I (ek I I)<|ai<|aa<|bt (ht I) (cX hx)<|dk<|aa<|ak<|aj<|av I<|zo I (gI jR fE I I I (cS hx))<|zo I (bf fE I I)<|bJ (r:=eQ) (x:=Co) fE (fun _=>s5 _) I fun b=>aS I<|aQ fE I aY I (ht I) (ht I)<|bE 7 I<|ai<|aa ?_;refine ae<|zo I (aU ie ga I I)<|zo I (bf bp I I)<|zo I (d6 I)<|ai<|bR h I (fun h=>?_) (fun h=>?_)
  ·refine ae<|av I<|zo I (aU iw dl I I)<|zo I (bf bV I I)<|zo I (d5 cR I)<|av I<|zo I (dI (ht I) (ht I))<|bA h fun e1 q_e1 h=>zo I (eh cR bp (.head _) (ht I) (ht I) q_e1)<|bA h fun st q_st h=>wJ bp I aY I q_e1 (so q_st) (ht I) hI<|pn (sE (so q_st)) 5 I<|pn (sE (so q_st)) 22 I<|ay<|ac<|af<|ae<|zo rfl (jL (cy hx hN) rfl)<|av rfl<|ay ?_;exact aM (aD (ih (i+1) st ⟨cx hx,h⟩) (aR I))
  ·refine aP<|ac<|af<|ae<|zo rfl (jL (cy hx hN) rfl)<|av rfl<|ay ?_;exact aM (aD (ih (i+1) out1 ⟨cx hx,h⟩) (aR I))
theorem QH(n:ap)(a1:(List Int)){R:(List Int)×Bool}(h:nw n a1=some R):bk ba 96 [tD aJ n,iK a1] (tT [iK R.1,fx R.2]):=by
 refine bk.of Tryz.func96 I I I fun w0 S0=>aj<|zo I (kp I)<|zo I (aN (show aK _ _ _ qN from iE))<|zo I (dd)<|ai<|aa<|aj<|zo I (aU iw dl I I)<|zo I (bf bV I I)<|zo I (d5 cR I)<|zo I (cH (ht I) hI)<|av I<|bI I I (fun hg=>aU fM cz I I)<|bI I I (fun hg=>am nd I I (aA I hg))<|bI I I (fun hg=>bw jR (aA I hg))<|bI I I (fun hg=>cH (aA I hg) hI)<|zo I (kh I I)<|av I<|bI I I (fun hg=>aU iw dl I I)<|bI I I (fun hg=>am bV I I (aA I hg)) ?_;refine bI I I (fun hg=>bw cR (aA I hg))<|bI I I (fun hg=>aU fM cz I I)<|bI I I (fun hg=>am nd I I (aA I hg))<|bI I I (fun hg=>bw jR (aA I hg))<|bI I I (fun hg=>dI (aA I hg) (aA I hg))<|bI I I (fun hg=>cw I)<|bI I I (fun hg=>bw cR (aA I hg))<|bI I I (fun hg=>bM (aA I hg) (aA I hg))<|zo I (kh I I)<|av I<|bI I I (fun hg=>cw I)<|bI I I (fun hg=>bw cR (aA I hg))<|bI I I (fun hg=>bz (aA I hg) hI)<|zo I (kh I I)<|ai<|bR h I (fun h=>?_) (fun h=>?_)
 ·refine aj<|zo I (aN (show aK _ _ _ qN from iE))<|zo I (dd)<|ai<|ah<|J ?_;cases so h;exact bQ I I I
 ·refine dk<|aj<|cd false cq 3<|zo I (aN sf)<|ai<|aa<|aj<|zo I (aU iw dl I I)<|zo I (bf bV I I)<|zo I (d5 cR I)<|zo I (bm hI)<|ai<|ak<|aT (k:=40) I fun hN=>bn ?_;refine aD (gF (Z:=fun ls i out l c=>(n.Keys.drop i=ls)∧lx n a1 ls i out=some R) (Of:=fun _ i out l c=>[df cq 3 l c out]) (Gf:=fun _ i out l c=>[(1,iK a1),(2,ce aJ n),(6,oY l c out),(40,iK n.Keys),(41,iB n.Keys),(42,cb (i:Int))]) (fun i out l c h=>?_) (fun e tl ih i out l c h=>?_) n.Keys 0 sr none 0 ⟨I,h⟩) (aR I)
  ·obtain⟨hx,h⟩:=h
   refine aq<|aj<|zo I (ek I I)<|ai<|aa<|bu (ht I) (de hx)<|bc ?_;refine M (M (aC ?_));refine af<|aa<|aj<|zo rfl (aU fM cz rfl rfl)<|zo rfl (bf nd rfl rfl)<|zo rfl (d5 jR rfl)<|zo rfl (bm hI)<|ai<|ak<|aT (k:=66) I fun hN1=>bn ?_;refine aD (gF (Z:=fun ls1 i1 out1 l1 c1=>(n.Aggs.drop i1=ls1)∧eV n a1 ls1 i1 out1=some R) (Of:=fun _ i1 out1 l1 c1=>[df cq 3 l1 c1 out1]) (Gf:=fun _ i1 out1 l1 c1=>[(1,iK a1),(2,ce aJ n),(6,oY l1 c1 out1),(66,dM (eQ) n.Aggs),(67,iB n.Aggs),(68,cb (i1:Int))]) (fun i1 out1 l1 c1 h=>?_) (fun e1 tl1 ih1 i1 out1 l1 c1 h=>?_) n.Aggs 0 out l c ⟨I,h⟩) (aR I)
   ·obtain⟨hx1,h⟩:=h
    refine aq<|aj<|zo I (ek I I)<|ai<|aa<|bu (ht I) (de hx1)<|bc ?_;refine M (M (aC ?_));refine af<|aj<|av rfl<|aS rfl<|zo rfl (dd)<|ai<|ah<|ea<|bS 6 rfl<|bS 107 rfl<|bS 4 rfl<|fT 4 rfl<|aX ?_;cases so h;exact bQ I I I
   ·obtain⟨hx1,h⟩:=h
    refine aq<|aj<|zo I (ek I I)<|ai<|aa<|bt (ht I) (cX hx1)<|dk<|aa<|ak<|aj<|av I<|zo I (gI jR fE I I I (cS hx1))<|zo I (bf fE I I)<|bJ (r:=eQ) (x:=Co) fE (fun _=>s5 _) I fun b=>aS I<|aQ fE I aY I (ht I) (ht I)<|bE 10 I<|ai<|aa ?_;refine ae<|av I<|zo I (aU iw dl I I)<|zo I (bf bV I I)<|zo I (d5 cR I)<|av I<|zo I (dI (ht I) (ht I))<|bA h fun e2 q_e2 h=>zo I (gI cR bp I I I q_e2)<|zo I (bf bp I I)<|aS I<|ai<|aa<|aj<|zo I (aU md kf I I)<|zo I (aU fd di I I)<|zo I (bf lN I I)<|zo I (d5 jh I)<|zo I (cH (ht I) hI)<|ai<|bR h I (fun h=>?_) (fun h=>?_)
    ·refine aj<|zo I (aN (show aK _ _ _ qN from iE))<|zo I (dd)<|ai<|ah ?_;refine J (au (J (J (au (J ?_)))));refine aX ?_;cases so h;exact bQ I I I
    ·refine dk<|aa<|aj<|zo I (aU ie ga I I)<|zo I (bf bp I I)<|ai<|ak ?_;refine dj (Z:=fun x=>nv (eV n a1 tl1) i1 e1 out1 e2 x=some R) (Of:=fun x=>[df cq 3 l1 c1 out1]) (Gf:=fun x=>[(1,iK a1),(2,ce aJ n),(6,oY l1 c1 out1),(11,cb e2),(66,dM (eQ) n.Aggs),(67,iB n.Aggs),(68,cb (i1:Int)),(87,cb e1.Tag),(88,fx x)]) (fun x h=>?_) (fun K=>?_)
     ·skip
      refine bR h I (fun h=>?_) (fun h=>?_)
      ·refine aj<|av I<|zo I (Aq I)<|ai<|bR h I (fun h=>?_) (fun h=>?_)
       ·refine aj<|zo I (aN (show aK _ _ _ qN from iE))<|zo I (dd)<|ai<|ah ?_;refine au (J (au (J (J (au (J ?_))))));refine aX ?_;cases so h;exact bQ I I I
       ·refine aP<|ac<|af<|ae<|av rfl<|av rfl<|zo rfl (aH (r:=cq) (ys:=[e2]) (xs:=[.tmp 103]) cR bp I I I I I ⟨(ht I),aZ⟩)<|bA h fun out2 q_out2 h=>be bp I I I I cR I I (ht I) (ht I) q_out2 fun l2 c2=>aS I<|ay<|ac<|af<|ae<|zo rfl (jL (cy hx1 hN1) rfl)<|av rfl<|ay ?_;exact aM (aD (ih1 (i1+1) out2 l2 c2 ⟨cx hx1,h⟩) (aR I))
      ·refine aj<|zo I (d6 I)<|aS I<|ai<|bR h I (fun h=>?_) (fun h=>?_)
       ·refine aa<|aj<|av I<|zo I (Aq I)<|ai<|bR h I (fun h=>?_) (fun h=>?_)
        ·refine aj<|zo I (aN (show aK _ _ _ qN from iE))<|zo I (dd)<|ai<|ah ?_;refine J (au (J (au (J (J (au (J ?_)))))));refine aX ?_;cases so h;exact bQ I I I
        ·refine dk<|ae<|zo I (dD)<|ay<|ac<|af<|ae<|av rfl<|av rfl<|zo rfl (aH (r:=cq) (ys:=[(2:Int)]) (xs:=[.tmp 103]) cR bp I I I I I ⟨(ht I),aZ⟩)<|bA h fun out3 q_out3 h=>be bp I I I I cR I I (ht I) (ht I) q_out3 fun l3 c3=>aS I<|ay<|ac<|af<|ae<|zo rfl (jL (cy hx1 hN1) rfl)<|av rfl<|ay ?_;exact aM (aD (ih1 (i1+1) out3 l3 c3 ⟨cx hx1,h⟩) (aR I))
       ·refine dj (Z:=fun x1=>nu (eV n a1 tl1) i1 out1 e2 x1=some R) (Of:=fun x1=>[df cq 3 l1 c1 out1]) (Gf:=fun x1=>[(1,iK a1),(2,ce aJ n),(6,oY l1 c1 out1),(11,cb e2),(66,dM (eQ) n.Aggs),(67,iB n.Aggs),(68,cb (i1:Int)),(97,fx x1)]) (fun x1 h=>?_) (fun K1=>?_)
        ·skip
         refine bR h I (fun h=>?_) (fun h=>?_)
         ·refine aj<|av I<|zo I (d6 I)<|ai<|bR h I (fun h=>?_) (fun h=>?_)
          ·refine aj<|zo I (aN (show aK _ _ _ qN from iE))<|zo I (dd)<|ai<|ah ?_;refine au (J (au (J (J (au (J ?_))))));refine aX ?_;cases so h;exact bQ I I I
          ·refine aP<|ac<|af<|ae<|av rfl<|av rfl<|zo rfl (aH (r:=cq) (ys:=[e2]) (xs:=[.tmp 103]) cR bp I I I I I ⟨(ht I),aZ⟩)<|bA h fun out4 q_out4 h=>be bp I I I I cR I I (ht I) (ht I) q_out4 fun l4 c4=>aS I<|ay<|ac<|af<|ae<|zo rfl (jL (cy hx1 hN1) rfl)<|av rfl<|ay ?_;exact aM (aD (ih1 (i1+1) out4 l4 c4 ⟨cx hx1,h⟩) (aR I))
         ·refine aj<|zo I (aN (show aK _ _ _ qN from iE))<|zo I (dd)<|ai<|ah ?_;refine au (J (au (J (J (au (J ?_))))));refine aX ?_;cases so h;exact bQ I I I
        ·skip
         refine aj<|zo I (d6 I)<|aS I<|ai<|bR h I (fun h=>?_) (fun h=>?_)
         ·refine aP ?_;exact bD (K1 (e1.Tag==(4:Int)) h) (aR I)
         ·refine ae<|zo I (d6 I)<|aS I<|ay ?_;exact bD (K1 (e1.Tag==(5:Int)) h) (aR I)
     ·skip
      refine aj<|zo I (d6 I)<|aS I<|ai<|bR h I (fun h=>?_) (fun h=>?_)
      ·refine aP ?_;exact bD (K (e1.Tag==(1:Int)) h) (aR I)
      ·refine ae<|zo I (d6 I)<|aS I<|ay ?_;exact bD (K (e1.Tag==(2:Int)) h) (aR I)
  ·obtain⟨hx,h⟩:=h
   refine aq<|aj<|zo I (ek I I)<|ai<|aa<|bt (ht I) (cX hx)<|dk<|aa<|ak<|aj<|av I<|zo I (gI cR bp I I I (cS hx))<|zo I (bf bp I I)<|aS I<|aS I<|ai<|aa<|aj ?_;refine av I<|av I<|zo I (bM (ht I) (ht I))<|av I<|bA h fun t q_t h=>bI I I (fun hg=>cw I)<|bI I I (fun hg=>cw I) ?_
   obtain⟨e3,h1t,h0t⟩:=og q_t
   have q_e3g:=fun hb=>(h1t hb).1
   refine bI I I (fun hg=>eT cR bp I (aA I hg) (aA I hg) (q_e3g hg))<|bI I I (fun hg=>am bp I I (aA I hg))<|bI I I (fun hg=>bz (aA I hg) hI)<|zo I (fF (ht I) (fun hb=>(aA I (oH hb))) (fun hb=>(h1t hb).2) h0t)<|ai<|bR h I (fun h=>?_) (fun h=>?_)
   ·refine aj<|zo I (aN (show aK _ _ _ qN from iE))<|zo I (dd)<|ai<|ah ?_;refine J (au (J (J (au (J ?_)))));refine aX ?_;cases so h;exact bQ I I I
   ·refine dk<|ae<|av I<|av I<|av I<|bA h fun e4 q_e4 h=>zo I (gI cR bp I I I q_e4)<|zo I (bf bp I I)<|zo I (aH (r:=cq) (ys:=[e4]) (xs:=[.tmp 61]) cR bp I I I I I ⟨(ht I),aZ⟩)<|bA h fun out5 q_out5 h=>be bp I I I I cR I I (ht I) (ht I) q_out5 fun l5 c5=>aS I<|ay<|ac<|af<|ae<|zo rfl (jL (cy hx hN) rfl)<|av rfl<|ay ?_;exact aM (aD (ih (i+1) out5 l5 c5 ⟨cx hx,h⟩) (aR I))

theorem Q6(l:(List ap)){R:(List (List Int))×Int}(h:nz l=some R):bk ba 42 [dM (aJ) l] (tT [dM (iW) R.1,cb R.2]):=by
 refine bk.of Tryz.func42 I I I fun w0 S0=>aj<|zo I (aN (show aK _ _ _ Ha from iE))<|zo I (dD)<|ai<|aa<|aj<|av I<|zo I (d5 ji I)<|zo I (d8 (ht I) hI)<|av I<|bI I I (fun hg=>cw I)<|bI I I (fun hg=>bw ji (aA I hg))<|bI I I (fun hg=>cH (aA I hg) hI)<|zo I (kh I I)<|ai<|bR h I (fun h=>?_) (fun h=>?_)
 ·refine aj<|zo I (aN (show aK _ _ _ Ha from iE))<|zo I (dD)<|ai<|ah<|J ?_;cases so h;exact bQ I I I
 ·refine dk<|aj<|cd false iW 69<|zo I (aN sf)<|ai<|aa<|aj<|av I<|zo I (d5 ji I)<|zo I (bm hI)<|ai<|ak<|aT (k:=20) I fun hN=>bn ?_;refine aD (gF (Z:=fun ls i out l1 c=>(l.drop i=ls)∧cC l ls i out=some R) (Of:=fun _ i out l1 c=>[df iW 69 l1 c out]) (Gf:=fun _ i out l1 c=>[(0,dM (aJ) l),(4,oY l1 c out),(20,dM (aJ) l),(21,iB l),(22,cb (i:Int))]) (fun i out l1 c h=>?_) (fun e tl ih i out l1 c h=>?_) l 0 KY none 0 ⟨I,h⟩) (aR I)
  ·obtain⟨hx,h⟩:=h
   refine aq<|aj<|zo I (ek I I)<|ai<|aa<|bu (ht I) (de hx)<|bc ?_;refine M (M (aC ?_));refine af<|aa<|aj<|av rfl<|av rfl<|zo rfl (d5 ji rfl)<|zo rfl (dG (ht rfl) hI)<|bA h fun r q_r h=>zo I (aG Mx (Mc _ _ q_r) ⟨(ht I),(ht I),aZ⟩)<|av I<|zo I (d5 ji I)<|zo I (bM (ht I) (ht I))<|ai<|bR h I (fun h=>?_) (fun h=>?_)
   ·refine aj<|av I<|zo I (d5 ji I)<|zo I (dG (ht I) hI)<|zo I (aN (show aK _ _ _ Ha from iE))<|aS I<|ai<|ah<|J<|aX ?_;cases so h;exact bQ I I I
   ·refine dk<|aj<|av I<|aS I<|zo I (dD)<|ai<|ah<|ea<|bS 4 I<|bS 151 I<|bS 2 I<|fT 2 I<|aX ?_;cases so h;exact bQ I I I
  ·obtain⟨hx,h⟩:=h
   refine aq<|aj<|zo I (ek I I)<|ai<|aa<|bt (ht I) (cX hx)<|dk<|aa<|ak<|aj<|av I<|zo I (gI ji ej I I I (cS hx))<|zo I (bf ej I I)<|bJ (r:=aJ) (x:=DK) ej (fun _=>iX _) I fun b=>aS I<|aQ ej I aY I (ht I) (ht I)<|bE 6 I<|ai<|aa ?_;refine ae<|av I<|av I<|bA h fun r1 q_r1 h=>zo I (aG Mx (Mc _ _ q_r1) ⟨(ht I),(ht I),aZ⟩)<|zo I (cH (ht I) hI)<|av I<|bA h fun t q_t h=>aO I I (fun hg=>bf ej I I) ?_
   obtain⟨r2,h1t,h0t⟩:=og q_t
   have q_r2g:=fun hb=>(h1t hb).1
   refine aO I I (fun hg=>aG U4 (QJ _ (q_r2g hg)) ⟨(aA I hg),aZ⟩)<|zo I (bN (ht I) (fun hb=>(aA I hb)) (fun hb=>(h1t hb).2) h0t)<|aS I<|ai<|aj<|zo I (aN (show aK _ _ _ qN from iE))<|ai ?_;refine zB (Z:=fun ok k=>dg l (cC l tl) i e out ok k=some R) (Of:=fun ok k=>[df iW 69 l1 c out]) (Gf:=fun ok k=>[(0,dM (aJ) l),(4,oY l1 c out),(5,cb (i:Int)),(6,ce aJ e),(7,fx ok),(8,iK k),(20,dM (aJ) l),(21,iB l),(22,cb (i:Int))]) (fun ok k h=>?_) (fun K=>?_)
   ·skip
    refine aj<|zo I (aU eJ cg I I)<|zo I (bf bp I I)<|zo I (d6 I)<|av I<|bI I I (fun hg=>aU eJ cg I I)<|bI I I (fun hg=>am bp I I (aA I hg))<|bI I I (fun hg=>bz (aA I hg) hI)<|zo I (kh I I)<|aS I<|ai<|aa<|aj<|av I<|zo I (dP (ht I))<|av I<|bI I I (fun hg=>cw I)<|bI I I (fun hg=>bm (aA I hg))<|cP I I I I (fun hg=>cw I)<|cP I I I I (fun hg=>cw I)<|cP I I I I (fun hg=>bw ji (aA I hg)) ?_;refine cP I I I I (fun hg=>dG (aA I hg) hI)<|cP I I I I (fun hg=>bM (aA I hg) (aA I hg))<|bI I I (fun hg=>hX (aA I hg) (fun hb=>(aA I (pT hg hb))))<|zo I (kh I I)<|ai<|bR h I (fun h=>?_) (fun h=>?_)
    ·refine aj<|av I<|zo I (aN (show aK _ _ _ Ha from iE))<|aS I<|ai<|ah ?_;refine J (au (J (J (au (J ?_)))));refine aX ?_;cases so h;exact bQ I I I
    ·refine dk<|ae<|av I<|av I<|zo I (aH (r:=tw) (ys:=[k]) (xs:=[.tmp 136]) rN bV I I I I I ⟨(ht I),aZ⟩)<|bA h fun out1 q_out1 h=>be bV I I I I rN I I (ht I) (ht I) q_out1 fun l2 c1=>aS I<|ay<|ac<|af<|ae<|zo rfl (jL (cy hx hN) rfl)<|av rfl<|ay ?_;exact aM (aD (ih (i+1) out1 l2 c1 ⟨cx hx,h⟩) (aR I))
   ·skip
    refine aj<|av I<|ai<|bR h I (fun h=>?_) (fun h=>?_)
    ·refine aj<|cd false iW 69<|zo I (aN sf)<|ai ?_;refine wP (Z:=fun parts l3 c2=>ny l (cC l tl) i e out parts=some R) (Of:=fun parts l3 c2=>[df iW 69 l1 c out,df iW 69 l3 c2 parts]) (Gf:=fun parts l3 c2=>[(0,dM (aJ) l),(4,oY l1 c out),(5,cb (i:Int)),(6,ce aJ e),(9,oY l3 c2 parts),(20,dM (aJ) l),(21,iB l),(22,cb (i:Int))]) (fun parts l3 c2 h=>?_) (fun K1=>?_)
     ·skip
      refine wP (Z:=fun parts1 l4 c3=>dU l (cC l tl) i e out parts1=some R) (Of:=fun parts1 l4 c3=>[df iW 69 l1 c out,df iW 69 l4 c3 parts1]) (Gf:=fun parts1 l4 c3=>[(0,dM (aJ) l),(4,oY l1 c out),(5,cb (i:Int)),(6,ce aJ e),(9,oY l4 c3 parts1),(20,dM (aJ) l),(21,iB l),(22,cb (i:Int))]) (fun parts1 l4 c3 h=>?_) (fun K2=>?_)
      ·skip
       refine aj<|zo I (aU eJ cg I I)<|zo I (bf bp I I)<|ai<|ak<|aj<|zo I (d6 I)<|aS I<|ai<|bR h I (fun h=>?_) (fun h=>?_)
       ·refine ae<|zo I (bf ej I I)<|bA h fun r3 q_r3 h=>zo I (aG U3 (QI _ q_r3) ⟨(ht I),aZ⟩)<|av I<|zo I (nj I I)<|zo I (nj I I)<|aS I<|aS I<|ay<|ac<|aV<|aX ?_;exact bD (K r3.2 r3.1 h) (aR I)
       ·refine aj<|zo I (d6 I)<|aS I<|ai<|bR h I (fun h=>?_) (fun h=>?_)
        ·refine aj<|zo I (bf ej I I)<|bJ (r:=aJ) (x:=DK) ej (fun _=>iX _) I fun b1=>aQ ej I aY I (ht I) (ht I)<|ai<|aj<|zo I (fe 0 eJ I I I)<|aQ bp I ug I (ht I) hI<|ai<|aj<|zo I (br (x:=(ap.mk (4:Int) e.A e.B e.Table e.Kinds e.Left e.Cond e.Keys e.Aggs e.Items e.Order e.Limit)) ej I I cA (.head _) (ht I))<|av I<|kE<|db<|ca 9 I<|ca 79 I<|bA h fun r4 q_r4 h=>zo I (aG RJ (HU _ _ q_r4) ⟨(ht I),(io (ht I)),aZ⟩)<|av I ?_;refine zo I (nj I I)<|zo I (nj I I)<|aS I<|aS I<|ai<|aj<|av I<|ai<|bR h I (fun h=>?_) (fun h=>?_)
         ·refine ae<|zo I (bf ej I I)<|av I<|bA h fun r5 q_r5 h=>cY U2 (NK _ _ q_r5) ⟨(ht I),(ht I),aZ⟩ I fun l5 c4=>aS I<|ay<|ac<|ea<|bS 8 I<|bS 86 I<|fT 8 I<|aX<|aX<|aX ?_;exact bD (K r4.2 r5 h) (aR I)
         ·refine aP<|ac<|aX<|aX ?_;exact bD (K r4.2 r4.1 h) (aR I)
        ·refine aj<|zo I (d6 I)<|aS I<|ai<|bR h I (fun h=>?_) (fun h=>?_)
         ·refine aa<|bA h fun e1 q_e1 h=>bA h fun r6 q_r6 h=>?_
          refine fq (ts:=[_,_,_,_,_,_,_,_,_,_]) mixed I I
           ⟨im 6 I I I (bf ej I I),
           ⟨im 9 I I I (cw I),
           ⟨dQ 91 1 I I I (eh rN bV (.tail _ (.head _)) (ht I) hI q_e1),
           ⟨dQ 92 2 I I I (jc (r:=tw) (i:=(0:Int)) (foff:=0) bV I I cA I (.tail _ (.head _)) q_e1 (ht I)),
           ⟨eF 90 0 93 3 I I I I (aG U1 (QH _ _ q_r6) ⟨(ht I),(ht I),aZ⟩),
           ⟨dQ 94 4 I I I (cw I),
           ⟨dQ 89 5 I I I (nj I I),
           ⟨dQ 89 5 I I I (nj I I),
           ⟨dQ 95 6 I I I (Cd I),
           ⟨dQ 96 7 I I I (Cd I),
           aZ⟩⟩⟩⟩⟩⟩⟩⟩⟩⟩ ?_
          refine af<|ae<|av rfl<|av rfl<|bA h fun t1 q_t1 h=>aO I I (fun hg=>cw I)<|aO I I (fun hg=>aU lh eW I I)<|aO I I (fun hg=>am bp I I (aA I hg)) ?_
          obtain⟨e2,h1t1,h0t1⟩:=og q_t1
          have q_e2g:=fun hb=>(h1t1 hb).1
          refine aO I I (fun hg=>eT ji ej I (aA I hg) (aA I hg) (q_e2g hg))<|aO I I (fun hg=>cK eJ I cg I (aA I hg))<|aO I I (fun hg=>am bp I I (aA I hg))<|aO I I (fun hg=>bz (aA I hg) hI)<|zo I (bN (ht I) (fun hb=>(aA I hb)) (fun hb=>(h1t1 hb).2) h0t1)<|aS I<|ay<|ac<|aV<|aX ?_;exact bD (K t1 r6.1 h) (aR I)
         ·refine aj<|zo I (d6 I)<|aS I<|ai<|bR h I (fun h=>?_) (fun h=>?_)
          ·refine ae<|zo I (bf ej I I)<|bA h fun r7 q_r7 h=>zo I (aG RJ (HU _ _ q_r7) ⟨(ht I),iE,aZ⟩)<|av I<|zo I (nj I I)<|zo I (nj I I)<|aS I<|aS I<|ay<|ac<|aV<|aX ?_;exact bD (K r7.2 r7.1 h) (aR I)
          ·refine ae<|zo I (bf ej I I)<|av I<|bT<|db<|ca 9 I<|ca 62 I<|bA h fun r8 q_r8 h=>zo I (aG RJ (HU _ _ q_r8) ⟨(ht I),(io (ht I)),aZ⟩)<|av I<|zo I (nj I I)<|zo I (nj I I)<|aS I<|aS I<|ay<|ac<|aX ?_;exact bD (K r8.2 r8.1 h) (aR I)
      ·skip
       refine aj<|zo I (aU m3 f7 I I)<|zo I (bf bp I I)<|zo I (dc (ht I) hI)<|ai<|bR h I (fun h=>?_) (fun h=>?_)
       ·refine ae<|av I<|av I<|zo I (aU m3 f7 I I)<|zo I (bf bp I I)<|bA h fun e3 q_e3 h=>zo I (eh rN bV (.head _) (ht I) (ht I) q_e3)<|zo I (jc (r:=tw) (i:=e.B) (foff:=0) bV I I cA I (.head _) q_e3 (ht I))<|zo I (aH (r:=tw) (ys:=[e3]) (xs:=[.tmp 55]) rN bV I I I I I ⟨(ht I),aZ⟩)<|bT<|bA h fun parts2 q_parts2 h=>be bV I I I I rN I I (ht I) (ht I) q_parts2 fun l6 c5=>aS I<|ay<|aV ?_;exact bD (K2 parts2 l6 c5 h) (aR I)
       ·refine aP ?_;exact bD (K2 parts l3 c2 h) (aR I)
     ·skip
      refine aj<|zo I (aU lh eW I I)<|zo I (bf bp I I)<|zo I (dc (ht I) hI)<|ai<|bR h I (fun h=>?_) (fun h=>?_)
      ·refine ae<|av I<|av I<|zo I (aU lh eW I I)<|zo I (bf bp I I)<|bA h fun e4 q_e4 h=>zo I (eh rN bV (.tail _ (.head _)) (ht I) (ht I) q_e4)<|zo I (jc (r:=tw) (i:=e.A) (foff:=0) bV I I cA I (.tail _ (.head _)) q_e4 (ht I))<|zo I (aH (r:=tw) (ys:=[e4]) (xs:=[.tmp 44]) rN bV I I I I I ⟨(ht I),aZ⟩)<|bA h fun parts3 q_parts3 h=>be bV I I I I rN I I (ht I) (ht I) q_parts3 fun l7 c6=>aS I<|ay<|aV ?_;exact bD (K1 parts3 l7 c6 h) (aR I)
      ·refine aP<|aV ?_;exact bD (K1 KY none 0 h) (aR I)
    ·refine aP ?_;exact bD (K t ([]) h) (aR I)

end Go.Proofs.YtdohlidddcgfjaaGreat

