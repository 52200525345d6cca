/- cT of this claim: P14. -/
import Derived.Test.YtdohlidddcgfjaaGreatFaT
import Derived.Test.YtdohlidddcgfjaaGreatFaP13
set_option linter.all false
namespace Go.Proofs.YtdohlidddcgfjaaGreat
open Go
set_option maxRecDepth 100000

theorem OO(op:Int){R:Int}(h:sJ op=some R):bk ba 131 [cb op] (cb R):=by
 refine bk.of Tryz.func131 I I I fun w0 S0=>aj<|zo I (dD)<|ai<|aa<|aj<|av I<|ai<|ak<|aj<|zo I (d6 I)<|aS I<|ai<|bR h I (fun h=>?_) (fun h=>?_)
 ·refine aj<|zo I (dD)<|ai<|ah ?_;refine au (J ?_);cases so h;exact aw I I
 ·refine dj (Z:=fun x=>pz op x=some R) (Of:=fun x=>[]) (Gf:=fun x=>[(0,cb op),(6,fx x)]) (fun x h=>?_) (fun K=>?_)
  ·skip
   refine bR h I (fun h=>?_) (fun h=>?_)
   ·refine aj<|zo I (dD)<|ai<|ah ?_;refine au (J ?_);cases so h;exact aw I I
   ·refine aP<|ac<|af<|aj<|av rfl<|bA h fun r q_r h=>zo I (aG PJ (I6 _ q_r) ⟨(ht I),aZ⟩)<|aS I<|ai<|ah ?_;cases so h;exact aw I I
  ·skip
   refine aj<|zo I (d6 I)<|aS I<|ai<|bR h I (fun h=>?_) (fun h=>?_)
   ·refine aP ?_;exact bD (K (op==(10:Int)) h) (aR I)
   ·refine ae<|zo I (d6 I)<|aS I<|ay ?_;exact bD (K (op==(11:Int)) h) (aR I)

theorem NL: ∀(fu:Nat) (l:(List ap)) (at1:Int) {R:Int} (h:fJ fu l at1=some R),bk ba 91 [dM (aJ) l,cb at1] (cb R):=by
 intro fu
 induction fu with
 |zero=>intro l at1 R h;exact(nn h).elim
 |succ fu ih=>
  intro l at1 R h
  refine bk.of Tryz.func91 I I I fun w0 S0=>aj<|zo I (dD)<|ai<|aa<|aj<|av I<|zo I (d8 (ht I) hI)<|av I<|bI I I (fun hg=>cw I)<|bI I I (fun hg=>cw I)<|bI I I (fun hg=>bw ji (aA I hg))<|bI I I (fun hg=>dc (aA I hg) (aA I hg))<|zo I (kh I I)<|ai<|bR h I (fun h=>?_) (fun h=>?_)
  ·refine aj<|zo I (dD)<|ai<|ah<|J ?_;cases so h;exact aw I I
  ·refine dk<|aj<|av I<|av I<|bA h fun e q_e h=>zo I (gI ji ej I I I q_e)<|zo I (bf ej I I)<|bJ (r:=aJ) (x:=DK) ej (fun _=>iX _) I fun b=>aQ ej I aY I (ht I) (ht I)<|bE 5 I<|ai<|aa<|aj<|zo I (aU eJ cg I I)<|zo I (bf bp I I)<|bA h fun r q_r h=>zo I (aG Ul (OO _ q_r) ⟨(ht I),aZ⟩)<|ai<|ak ?_;refine aj<|zo I (d6 I)<|aS I<|ai<|bR h I (fun h=>?_) (fun h=>?_)
   ·refine aj<|zo I (aU lh eW I I)<|zo I (bf bp I I)<|zo I (d6 I)<|av I<|aO I I (fun hg=>aU m3 f7 I I)<|aO I I (fun hg=>am bp I I (aA I hg))<|aO I I (fun hg=>bz (aA I hg) hI)<|zo I (fV I I)<|ai<|bR h I (fun h=>?_) (fun h=>?_)
    ·refine aj<|zo I (dD)<|ai<|ah ?_;refine au (J ?_);cases so h;exact aw I I
    ·refine aP<|ac<|af<|aj<|zo rfl (dD)<|ai<|ah ?_;cases so h;exact aw I I
   ·refine aj<|zo I (d6 I)<|aS I<|ai<|bR h I (fun h=>?_) (fun h=>?_)
    ·refine aj<|av I<|av I<|zo I (dG (ht I) hI)<|bA h fun r1 q_r1 h=>zo I (aG Mx (ih _ _ q_r1) ⟨(ht I),(ht I),aZ⟩)<|aS I<|ai<|aj<|zo I (aU lh eW I I)<|zo I (bf bp I I)<|av I<|zo I (dG (ht I) hI)<|zo I (bz (ht I) (ht I))<|av I<|aO I I (fun hg=>aU m3 f7 I I)<|aO I I (fun hg=>am bp I I (aA I hg))<|aO I I (fun hg=>bz (aA I hg) hI)<|zo I (fV I I)<|av I<|aO I I (fun hg=>cw I) ?_;refine aO I I (fun hg=>cH (aA I hg) hI)<|zo I (fV I I)<|ai<|bR h I (fun h=>?_) (fun h=>?_)
     ·refine aj<|av I<|zo I (dI (ht I) hI)<|aS I<|ai<|ah ?_;refine au (J ?_);cases so h;exact aw I I
     ·refine aP<|ac<|af<|aj<|zo rfl (dD)<|ai<|ah ?_;cases so h;exact aw I I
    ·refine aj<|zo I (d6 I)<|aS I<|ai<|bR h I (fun h=>?_) (fun h=>?_)
     ·refine aj<|av I<|av I<|zo I (dG (ht I) hI)<|bA h fun r2 q_r2 h=>zo I (aG Mx (ih _ _ q_r2) ⟨(ht I),(ht I),aZ⟩)<|aS I<|ai<|aa<|aj<|av I<|zo I (d6 I)<|av I<|bI I I (fun hg=>aU m3 f7 I I)<|bI I I (fun hg=>am bp I I (aA I hg))<|bI I I (fun hg=>cw I)<|bI I I (fun hg=>dG (aA I hg) hI)<|bI I I (fun hg=>bM (aA I hg) (aA I hg))<|zo I (kh I I)<|av I<|bI I I (fun hg=>aU lh eW I I) ?_;refine bI I I (fun hg=>am bp I I (aA I hg))<|bI I I (fun hg=>cw I)<|bI I I (fun hg=>dG (aA I hg) hI)<|bI I I (fun hg=>cw I)<|bI I I (fun hg=>dG (aA I hg) (aA I hg))<|bI I I (fun hg=>bM (aA I hg) (aA I hg))<|zo I (kh I I)<|ai<|bR h I (fun h=>?_) (fun h=>?_)
      ·refine aj<|zo I (dD)<|ai<|ah ?_;refine J (au (J ?_));cases so h;exact aw I I
      ·refine dk<|aj<|av I<|zo I (aU lh eW I I)<|zo I (bf bp I I)<|bA h fun r3 q_r3 h=>zo I (aG Mx (ih _ _ q_r3) ⟨(ht I),(ht I),aZ⟩)<|aS I<|ai<|aj<|av I<|zo I (cH (ht I) hI)<|ai<|bR h I (fun h=>?_) (fun h=>?_)
       ·refine aj<|av I<|av I<|zo I (dI (ht I) (ht I))<|zo I (dI (ht I) hI)<|aS I<|ai<|ah ?_;refine au (J ?_);cases so h;exact aw I I
       ·refine aP<|ac<|af<|aj<|zo rfl (dD)<|ai<|ah ?_;cases so h;exact aw I I
     ·refine aP<|ac<|af<|aj<|zo rfl (dD)<|ai<|ah ?_;cases so h;exact aw I I
theorem Mc(l:(List ap))(at1:Int){R:Int}(h:rZ l at1=some R):bk ba 91 [dM (aJ) l,cb at1] (cb R):=NL ef l at1 h

theorem AF(n:ap){R:Bool}(h:n8 n=some R):bk ba 132 [tD aJ n] (fx R):=by
 refine bk.of Tryz.func132 I I I fun w0 S0=>aj<|zo I (kp I)<|zo I (dd)<|ai<|aa<|aj<|zo I (aU eJ cg I I)<|zo I (bf bp I I)<|zo I (Aq I)<|av I<|aO I I (fun hg=>aU oA gr I I)<|aO I I (fun hg=>am bp I I (aA I hg))<|aO I I (fun hg=>bM (aA I hg) hI)<|aO I I (fun hg=>bm (aA I hg))<|ck I I I I (fun hg=>aU iH dz I I)<|ck I I I I (fun hg=>am bV I I (aA I hg))<|ck I I I I (fun hg=>bw cR (aA I hg))<|ck I I I I (fun hg=>cH (aA I hg) hI)<|aO I I (fun hg=>jn (aA I hg) (fun hb=>(aA I (pT hg (oH hb)))))<|zo I (fV I I) ?_;refine ai<|bR h I (fun h=>?_) (fun h=>?_)
 ·refine aj<|zo I (dd)<|ai<|ah<|J ?_;cases so h;exact aw I I
 ·refine dk<|aa<|aj<|zo I (aU eJ cg I I)<|zo I (bf bp I I)<|zo I (Aq I)<|av I<|aO I I (fun hg=>aU vW nQ I I)<|aO I I (fun hg=>am As I I (aA I hg))<|zo I (fV I I)<|av I<|bI I I (fun hg=>aU eJ cg I I)<|bI I I (fun hg=>am bp I I (aA I hg))<|bI I I (fun hg=>bM (aA I hg) hI)<|bI I I (fun hg=>bm (aA I hg))<|cP I I I I (fun hg=>aU eJ cg I I)<|cP I I I I (fun hg=>am bp I I (aA I hg))<|cP I I I I (fun hg=>bM (aA I hg) hI)<|bI I I (fun hg=>hX (aA I hg) (fun hb=>(aA I (pT hg hb))))<|bI I I (fun hg=>bm (aA I hg))<|cP I I I I (fun hg=>aU o8 gN I I)<|cP I I I I (fun hg=>cK fd I di I (aA I hg)) ?_;refine cP I I I I (fun hg=>am lN I I (aA I hg))<|cP I I I I (fun hg=>bw jh (aA I hg))<|cP I I I I (fun hg=>cH (aA I hg) hI)<|bI I I (fun hg=>hX (aA I hg) (fun hb=>(aA I (pT hg hb))))<|zo I (kh I I)<|ai<|bR h I (fun h=>?_) (fun h=>?_)
  ·refine aj<|zo I (dd)<|ai<|ah<|J ?_;cases so h;exact aw I I
  ·refine dk<|aa<|aj<|zo I (aU eJ cg I I)<|zo I (bf bp I I)<|zo I (Aq I)<|av I<|aO I I (fun hg=>aU iw dl I I)<|aO I I (fun hg=>am bV I I (aA I hg))<|aO I I (fun hg=>bw cR (aA I hg))<|aO I I (fun hg=>cH (aA I hg) hI)<|aO I I (fun hg=>bm (aA I hg))<|ck I I I I (fun hg=>aU fM cz I I)<|ck I I I I (fun hg=>am nd I I (aA I hg))<|ck I I I I (fun hg=>bw jR (aA I hg))<|ck I I I I (fun hg=>cH (aA I hg) hI)<|aO I I (fun hg=>jn (aA I hg) (fun hb=>(aA I (pT hg (oH hb)))))<|zo I (fV I I)<|av I<|bI I I (fun hg=>aU eJ cg I I)<|bI I I (fun hg=>am bp I I (aA I hg))<|bI I I (fun hg=>bM (aA I hg) hI) ?_;refine bI I I (fun hg=>bm (aA I hg))<|cP I I I I (fun hg=>aU m2 gq I I)<|cP I I I I (fun hg=>am u4 I I (aA I hg))<|cP I I I I (fun hg=>bw pr (aA I hg))<|cP I I I I (fun hg=>cH (aA I hg) hI)<|bI I I (fun hg=>hX (aA I hg) (fun hb=>(aA I (pT hg hb))))<|zo I (kh I I)<|ai<|bR h I (fun h=>?_) (fun h=>?_)
   ·refine aj<|zo I (dd)<|ai<|ah<|J ?_;cases so h;exact aw I I
   ·refine dk<|aj<|zo I (aU eJ cg I I)<|zo I (bf bp I I)<|zo I (d6 I)<|av I<|bI I I (fun hg=>aU iA dR I I)<|bI I I (fun hg=>am sv I I (aA I hg))<|bI I I (fun hg=>bw pR (aA I hg))<|bI I I (fun hg=>bz (aA I hg) hI)<|bI I I (fun hg=>bm (aA I hg))<|cP I I I I (fun hg=>aU oS iu I I)<|cP I I I I (fun hg=>am bp I I (aA I hg))<|cP I I I I (fun hg=>bz (aA I hg) hI)<|bI I I (fun hg=>hX (aA I hg) (fun hb=>(aA I (pT hg hb))))<|zo I (kh I I)<|aS I<|ai<|ah ?_;cases so h;exact aw I I

theorem QJ(n:ap){R:Bool}(h:n7 n=some R):bk ba 92 [tD aJ n] (fx R):=by
 refine bk.of Tryz.func92 I I I fun w0 S0=>aj<|wL (ht I) I fun b=>zo I (dd)<|ai<|aa<|aj<|zo I (fe 0 eJ I I I)<|zo I (br bp I I cg (.head _) (ht I))<|ai<|ak<|aj<|zo I (d6 I)<|aS I<|ai<|bR h I (fun h=>?_) (fun h=>?_)
 ·refine ae<|zo I (fe 0 eJ I I I)<|aQ bp I ug I (ht I) hI<|ay<|ac<|af<|aj<|zo rfl (br (x:=(ap.mk (1:Int) n.A n.B n.Table n.Kinds n.Left n.Cond n.Keys n.Aggs n.Items n.Order n.Limit)) ej I I cA (.head _) (ht I))<|bA h fun r q_r h=>zo I (aG Jf (AF _ q_r) ⟨(ht I),aZ⟩)<|aS I<|ai<|ah<|aX ?_;cases so h;exact aw I I
 ·refine dj (Z:=fun x=>lY n x=some R) (Of:=fun x=>[bx aJ 89 b n]) (Gf:=fun x=>[(1,tV (aL b 0)),(8,fx x)]) (fun x h=>?_) (fun K=>?_)
  ·skip
   refine bR h I (fun h=>?_) (fun h=>?_)
   ·refine ae<|zo I (fe 0 eJ I I I)<|aQ bp I ug I (ht I) hI<|ay<|ac<|af<|aj<|zo rfl (br (x:=(ap.mk (4:Int) n.A n.B n.Table n.Kinds n.Left n.Cond n.Keys n.Aggs n.Items n.Order n.Limit)) ej I I cA (.head _) (ht I))<|bA h fun r1 q_r1 h=>zo I (aG Jf (AF _ q_r1) ⟨(ht I),aZ⟩)<|aS I<|ai<|ah<|aX ?_;cases so h;exact aw I I
   ·refine aP<|ac<|af<|aj<|zo rfl (br ej rfl rfl cA (.head _) (ht rfl))<|bA h fun r2 q_r2 h=>zo I (aG Jf (AF _ q_r2) ⟨(ht I),aZ⟩)<|aS I<|ai<|ah<|aX ?_;cases so h;exact aw I I
  ·skip
   refine aj<|zo I (d6 I)<|aS I<|ai<|bR h I (fun h=>?_) (fun h=>?_)
   ·refine aP ?_;exact bD (K (n.Op==(10:Int)) h) (aR I)
   ·refine ae<|zo I (d6 I)<|aS I<|ay ?_;exact bD (K (n.Op==(11:Int)) h) (aR I)

theorem QI(n:ap){R:(List Int)×Bool}(h:sI n=some R):bk ba 93 [tD aJ n] (tT [iK R.1,fx R.2]):=by
 refine bk.of Tryz.func93 I I I fun w0 S0=>aj<|zo I (kp I)<|zo I (aN (show aK _ _ _ qN from iE))<|zo I (dd)<|ai<|aj<|zo I (aU oA gr I I)<|zo I (bf bp I I)<|zo I (dc (ht I) hI)<|av I<|aO I I (fun hg=>aU oA gr I I)<|aO I I (fun hg=>am bp I I (aA I hg))<|aO I I (fun hg=>d8 (aA I hg) hI)<|zo I (fV I I)<|av I<|aO I I (fun hg=>aU iH dz I I)<|aO I I (fun hg=>am bV I I (aA I hg))<|aO I I (fun hg=>bw cR (aA I hg))<|aO I I (fun hg=>dc (aA I hg) hI)<|zo I (fV I I) ?_;refine av I<|aO I I (fun hg=>aU iH dz I I)<|aO I I (fun hg=>am bV I I (aA I hg))<|aO I I (fun hg=>bw cR (aA I hg))<|aO I I (fun hg=>dV (aA I hg) hI)<|zo I (fV I I)<|aS I<|ai<|aa<|aj<|zo I (aU iH dz I I)<|zo I (bf bV I I)<|zo I (d5 cR I)<|zo I (bm hI)<|ai<|ak<|aT (k:=28) I fun hN=>bn ?_;refine aD (q5 (Z:=fun ls i ok=>(n.Kinds.drop i=ls)∧lw n ls ok=some R) (Of:=fun _ i ok=>[]) (Gf:=fun _ i ok=>[(1,ce aJ n),(4,fx ok),(28,iK n.Kinds),(29,iB n.Kinds),(30,cb (i:Int))]) (fun i ok h=>?_) (fun e tl ih i ok h=>?_) n.Kinds 0 ((((decide ((0:Int)≤n.Table))&&(decide (n.Table<(30:Int))))&&(decide ((1:Int)≤(n.Kinds.length:Int))))&&(decide ((n.Kinds.length:Int)≤(16:Int)))) ⟨I,h⟩) (aR I)
 ·obtain⟨hx,h⟩:=h
  refine aq<|aj<|zo I (ek I I)<|ai<|aa<|bu (ht I) (de hx)<|bc ?_;refine M (M (aC ?_));refine af<|aj<|zo rfl (aU iH dz rfl rfl)<|zo rfl (bf bV rfl rfl)<|av rfl<|aS rfl<|aS rfl<|ai<|ah ?_;cases so h;exact bQ I I I
 ·obtain⟨hx,h⟩:=h
  refine aq<|aj<|zo I (ek I I)<|ai<|aa<|bt (ht I) (cX hx)<|dk<|aa<|ak<|aj<|zo I (gI cR bp I I I (cS hx))<|zo I (bf bp I I)<|aS I<|ai<|ae<|av I<|av I<|aO I I (fun hg=>cw I)<|aO I I (fun hg=>dc (aA I hg) hI) ?_;refine zo I (fV I I)<|av I<|aO I I (fun hg=>cw I)<|aO I I (fun hg=>dV (aA I hg) hI)<|zo I (fV I I)<|aS I<|ay<|ac<|af<|ae<|zo rfl (jL (cy hx hN) rfl)<|av rfl<|ay ?_;exact aM (aD (ih (i+1) ((ok&&(decide ((0:Int)≤e)))&&(decide (e≤(4:Int)))) ⟨cx hx,h⟩) (aR I))

theorem ON(kinds:(List Int)){R:Bool}(h:uk kinds=some R):bk ba 133 [iK kinds] (fx R):=by
 refine bk.of Tryz.func133 I I I fun w0 S0=>aj<|zo I (dd)<|ai<|aa<|aj<|av I<|zo I (d5 cR I)<|zo I (bm hI)<|ai<|ak<|aT (k:=5) I fun hN=>bn ?_;refine aD (dv (Z:=fun ls i=>(kinds.drop i=ls)∧qA ls=some R) (Of:=fun _ i=>[]) (Gf:=fun _ i=>[(5,iK kinds),(6,iB kinds),(7,cb (i:Int))]) (fun i h=>?_) (fun e tl ih i h=>?_) kinds 0 ⟨I,h⟩) (aR I)
 ·obtain⟨hx,h⟩:=h
  refine aq<|aj<|zo I (ek I I)<|ai<|aa<|bu (ht I) (de hx)<|bc ?_;refine M (M (aC ?_));refine af<|aj<|zo rfl (dd)<|ai<|ah ?_;cases so h;exact aw I I
 ·obtain⟨hx,h⟩:=h
  refine aq<|aj<|zo I (ek I I)<|ai<|aa<|bt (ht I) (cX hx)<|dk<|aa<|ak<|aj<|zo I (gI cR bp I I I (cS hx))<|zo I (bf bp I I)<|aS I<|ai<|aj<|av I<|zo I (d6 I)<|ay ?_;refine af<|bR h rfl (fun h=>?_) (fun h=>?_)
  ·refine aj<|zo I (dd)<|ai<|ah ?_;refine au (J (J (au (J ?_))));cases so h;exact aw I I
  ·refine aP<|ac<|af<|ae<|zo rfl (jL (cy hx hN) rfl)<|av rfl<|ay ?_;exact aM (aD (ih (i+1) ⟨cx hx,h⟩) (aR I))

theorem OM(root:bC)(l:(List bv)){R:bv}(h:uq root l=some R):bk ba 134 [tD bG root,dM (bL) l] (tD bL R):=by
 refine bk.of Tryz.func134 I I I fun w0 S0=>aj<|wL (ht I) I fun b=>bJ (r:=bL) (x:=u0) fv (fun _=>qx _) I fun b1=>ai<|aj<|cd true bG 160<|bJ (r:=my) (x:=oj u0 (ax none 0 (([]:List bC).length))) fv Js I fun b2=>ai<|aj<|zo I (fe 1 qH I I I)<|ju<|aQ bp I xk I (ht I) hI<|zo I (fe 2 pN I I I)<|aQ bp I xj I (ht I) hI<|ai<|aa<|aa ?_;refine ae<|av I<|zo I (d5 pr I)<|zo I (bm hI)<|ai<|ak<|aT (k:=13) I fun hN=>bn<|po<|po<|fS<|fS ?_;refine aD (wc (Z:=fun ls i root1 out l1 c=>(l.drop i=ls)∧k8 ls i root1 out=some R) (Of:=fun _ i root1 out l1 c=>[bx bG 160 b root1,bx bL 84 b1 u0,bx my 84 b2 (oj out (ax l1 c out.Nodes.length)),tip bG 160 l1 c out.Nodes]) (Gf:=fun _ i root1 out l1 c=>[(2,tV (aL b 0)),(4,tV (aL b1 0)),(5,tV (aL b2 0)),(13,dM (bL) l),(14,iB l),(15,cb (i:Int))]) (fun i root1 out l1 c h=>?_) (fun e tl ih i root1 out l1 c h=>?_) l 0 (bC.mk root.Tag xR xR root.Col root.Value) ({u0 with Nodes:=([]:List bC)}:bv) none 0 ⟨I,h⟩) (aR I)
 ·obtain⟨hx,h⟩:=h
  refine aq<|aj<|zo I (ek I I)<|ai<|aa<|bu (ht I) (de hx)<|bc ?_;refine M (M (aC ?_));refine af<|aj<|zo rfl (fe 0 fd rfl rfl rfl)<|zo rfl (kz lN qX (.tail _ (.tail _ (.head _))) (.tail _ (.tail _ (.tail _ (.head _)))) rfl (ht rfl))<|zo rfl (br eb rfl rfl cA (.head _) (ht rfl))<|zo rfl (aH (r:=bG) (ys:=[root1]) (xs:=[.tmp 68]) jh eb I I I I I ⟨(ht I),aZ⟩)<|ju<|bA h fun l2 q_l2 h=>mh eb I I I I jh I I (ht I) (ht I) q_l2 fun l3 c1=>zo I (fe 0 fd I I I)<|ju<|gc lN I (ri _ _ _) I (ht I) (EX (vr (ht I)))<|ai<|aj<|bT<|zo I (xw (q:=bL) (y:=({out with Nodes:=l2}:bv)) fv I I I I (.tail _ (.head _)) (fun _ _ _ ho h=>BR (oR ho (.head _)) h) (ht I))<|ju<|aQ fv I aY I (ht I) (ht I)<|bE 4 I<|ai ?_;refine ah<|aX<|aX<|aX ?_;cases so h;exact Cc I fv I I I
 ·obtain⟨hx,h⟩:=h
  refine aq<|aj<|zo I (ek I I)<|ai<|aa<|bt (ht I) (cX hx)<|dk<|aa<|ak<|aj<|av I<|zo I (gI pr fv I I I (cS hx))<|zo I (bf fv I I)<|bJ (r:=bL) (x:=u0) fv (fun _=>qx _) I fun b3=>aS I<|aQ fv I aY I (ht I) (ht I)<|bE 7 I<|ai<|aa ?_;refine ae<|zo I (fe 0 fd I I I)<|zo I (kz lN qX (.tail _ (.tail _ (.head _))) (.tail _ (.tail _ (.tail _ (.head _)))) I (ht I))<|zo I (bw jh (io (ht I)))<|aS I<|ai<|aa<|aj<|zo I (aU fd di I I)<|zo I (bf lN I I)<|zo I (d5 jh I)<|zo I (bm hI)<|ai<|ak<|aT (k:=24) I fun hN1=>bn ?_;refine aD (gF (Z:=fun ls1 i1 out1 l4 c2=>(e.Nodes.drop i1=ls1)∧mJ (k8 tl) i root1 out ls1 out1=some R) (Of:=fun _ i1 out1 l4 c2=>[bx bG 160 b root1,bx bL 84 b1 u0,bx my 84 b2 (oj out1 (ax l4 c2 out1.Nodes.length)),tip bG 160 l4 c2 out1.Nodes]) (Gf:=fun _ i1 out1 l4 c2=>[(2,tV (aL b 0)),(4,tV (aL b1 0)),(5,tV (aL b2 0)),(6,cb (i:Int)),(8,iB out.Nodes),(13,dM (bL) l),(14,iB l),(15,cb (i:Int)),(24,dM (bG) e.Nodes),(25,iB e.Nodes),(26,cb (i1:Int))]) (fun i1 out1 l4 c2 h=>?_) (fun e1 tl1 ih1 i1 out1 l4 c2 h=>?_) e.Nodes 0 out l1 c ⟨I,h⟩) (aR I)
  ·obtain⟨hx1,h⟩:=h
   refine aq<|aj<|zo I (ek I I)<|ai<|aa<|bu (ht I) (de hx1)<|bc ?_;refine M (M (aC ?_));refine af<|aj<|av rfl<|zo rfl (d6 rfl)<|ai<|bR h rfl (fun h=>?_) (fun h=>?_)
   ·refine ae<|zo I (fe 0 fd I I I)<|zo I (kz lN qX (.tail _ (.tail _ (.head _))) (.tail _ (.tail _ (.tail _ (.head _)))) I (ht I))<|zo I (bw jh (io (ht I)))<|zo I (dG (ht I) hI)<|zo I (fe 1 qH I I I)<|aQ bp I xk I (ht I) (ht I)<|ay<|ac<|af<|ae<|zo rfl (jL (cy hx hN) rfl)<|av rfl<|ay ?_;exact aM (aD (ih (i+1) (bC.mk root1.Tag (IntKind.i64.wrap ((out1.Nodes.length:Int)-(1:Int))) root1.R root1.Col root1.Value) out1 l4 c2 ⟨cx hx,h⟩) (aR I))
   ·refine ae<|zo I (fe 0 fd I I I)<|zo I (kz lN qX (.tail _ (.tail _ (.head _))) (.tail _ (.tail _ (.tail _ (.head _)))) I (ht I))<|zo I (bw jh (io (ht I)))<|zo I (dG (ht I) hI)<|zo I (fe 2 pN I I I)<|aQ bp I xj I (ht I) (ht I)<|ay<|ac<|af<|ae<|zo rfl (jL (cy hx hN) rfl)<|av rfl<|ay ?_;exact aM (aD (ih (i+1) (bC.mk root1.Tag root1.L (IntKind.i64.wrap ((out1.Nodes.length:Int)-(1:Int))) root1.Col root1.Value) out1 l4 c2 ⟨cx hx,h⟩) (aR I))
  ·obtain⟨hx1,h⟩:=h
   refine aq<|aj<|zo I (ek I I)<|ai<|aa<|bt (ht I) (cX hx1)<|dk<|aa<|ak<|aj<|zo I (gI jh eb I I I (cS hx1))<|zo I (bf eb I I)<|bJ (r:=bG) (x:=AQ) eb (fun _=>lp _) I fun b4=>aQ eb I aY I (ht I) (ht I)<|ai ?_;refine dj (Z:=fun n=>ta out (mJ (k8 tl) i root1 out tl1) out1 n=some R) (Of:=fun n=>[bx bG 160 b root1,bx bL 84 b1 u0,bx bG 160 b4 n,bx my 84 b2 (oj out1 (ax l4 c2 out1.Nodes.length)),tip bG 160 l4 c2 out1.Nodes]) (Gf:=fun n=>[(2,tV (aL b 0)),(4,tV (aL b1 0)),(5,tV (aL b2 0)),(6,cb (i:Int)),(8,iB out.Nodes),(10,tV (aL b4 0)),(13,dM (bL) l),(14,iB l),(15,cb (i:Int)),(24,dM (bG) e.Nodes),(25,iB e.Nodes),(26,cb (i1:Int))]) (fun n h=>?_) (fun K=>?_)
   ·skip
    refine dj (Z:=fun n1=>s9 (mJ (k8 tl) i root1 out tl1) out1 n1=some R) (Of:=fun n1=>[bx bG 160 b root1,bx bL 84 b1 u0,bx bG 160 b4 n1,bx my 84 b2 (oj out1 (ax l4 c2 out1.Nodes.length)),tip bG 160 l4 c2 out1.Nodes]) (Gf:=fun n1=>[(2,tV (aL b 0)),(4,tV (aL b1 0)),(5,tV (aL b2 0)),(6,cb (i:Int)),(8,iB out.Nodes),(10,tV (aL b4 0)),(13,dM (bL) l),(14,iB l),(15,cb (i:Int)),(24,dM (bG) e.Nodes),(25,iB e.Nodes),(26,cb (i1:Int))]) (fun n1 h=>?_) (fun K1=>?_)
    ·skip
     refine ae<|zo I (fe 0 fd I I I)<|zo I (kz lN qX (.tail _ (.tail _ (.tail _ (.head _)))) (.tail _ (.tail _ (.tail _ (.tail _ (.head _))))) I (ht I))<|zo I (br eb I I cA (.tail _ (.tail _ (.head _))) (ht I))<|zo I (aH (r:=bG) (ys:=[n1]) (xs:=[.tmp 48]) jh eb I I I I I ⟨(ht I),aZ⟩)<|zw<|bA h fun l5 q_l5 h=>mh eb I I I I jh I I (ht I) (ht I) q_l5 fun l6 c3=>zo I (fe 0 fd I I I)<|zw<|gc lN I (ri _ _ _) I (ht I) (EX (vr (ht I)))<|ay<|ac<|af<|ae<|zo rfl (jL (cy hx1 hN1) rfl)<|av rfl<|ay<|gA<|aX<|aV<|aV<|bX<|bX ?_;exact aM (aD (ih1 (i1+1) ({out1 with Nodes:=l5}:bv) l6 c3 ⟨cx hx1,h⟩) (aR I))
    ·skip
     refine aj<|zo I (fe 2 pN I I I)<|zo I (br bp I I mb (.tail _ (.tail _ (.head _))) (ht I))<|zo I (dc (ht I) hI)<|ai<|bR h I (fun h=>?_) (fun h=>?_)
     ·refine ae<|zo I (fe 2 pN I I I)<|zo I (br bp I I mb (.tail _ (.tail _ (.head _))) (ht I))<|av I<|zo I (dI (ht I) (ht I))<|zo I (fe 2 pN I I I)<|kE<|aQ bp I xj I (ht I) (ht I)<|ay<|gA<|gA<|bl<|gA<|gA ?_;exact bD (K1 (bC.mk n.Tag n.L (IntKind.i64.wrap (n.R+(out.Nodes.length:Int))) n.Col n.Value) h) (aR I)
     ·refine aP ?_;exact bD (K1 n h) (aR I)
   ·skip
    refine aj<|zo I (fe 1 qH I I I)<|zo I (br bp I I nR (.head _) (ht I))<|zo I (dc (ht I) hI)<|ai<|bR h I (fun h=>?_) (fun h=>?_)
    ·refine ae<|zo I (fe 1 qH I I I)<|zo I (br bp I I nR (.head _) (ht I))<|av I<|zo I (dI (ht I) (ht I))<|zo I (fe 1 qH I I I)<|aQ bp I xk I (ht I) (ht I)<|ay<|gA<|gA<|bl<|gA<|gA ?_;exact bD (K (bC.mk e1.Tag (IntKind.i64.wrap (e1.L+(out.Nodes.length:Int))) e1.R e1.Col e1.Value) h) (aR I)
    ·refine aP<|gA<|gA<|bl<|gA<|gA ?_;exact bD (K e1 h) (aR I)

theorem Mo: ∀(fu:Nat) (l:dh) (at1:Int) {R:Int} (h:dC fu l at1=some R),bk ba 179 [tD j5 l,cb at1] (cb R):=by
 intro fu
 induction fu with
 |zero=>intro l at1 R h;exact(nn h).elim
 |succ fu ih=>
  intro l at1 R h
  refine bk.of Tryz.func179 I I I fun w0 S0=>aj<|zo I (kp I)<|zo I (dD)<|ai<|aa<|aj<|av I<|zo I (d8 (ht I) hI)<|av I<|bI I I (fun hg=>cw I)<|bI I I (fun hg=>aU m1 lg I I)<|bI I I (fun hg=>am ox I I (aA I hg))<|bI I I (fun hg=>bw ji (aA I hg))<|bI I I (fun hg=>dc (aA I hg) (aA I hg))<|zo I (kh I I)<|ai<|bR h I (fun h=>?_) (fun h=>?_)
  ·refine aj<|zo I (dD)<|ai<|ah<|J ?_;cases so h;exact aw I I
  ·refine dk<|aj<|zo I (aU m1 lg I I)<|zo I (bf ox I I)<|av I<|bA h fun e q_e h=>zo I (gI ji ej I I I q_e)<|zo I (bf ej I I)<|bJ (r:=aJ) (x:=DK) ej (fun _=>iX _) I fun b=>aQ ej I aY I (ht I) (ht I)<|bE 5 I<|ai<|aa<|aj<|zo I (aU eJ cg I I)<|zo I (bf bp I I)<|bA h fun r q_r h=>zo I (aG PJ (I6 _ q_r) ⟨(ht I),aZ⟩)<|ai ?_;refine ak<|aj<|zo I (d6 I)<|aS I<|ai<|bR h I (fun h=>?_) (fun h=>?_)
   ·refine aj<|zo I (aU lh eW I I)<|zo I (bf bp I I)<|zo I (d6 I)<|av I<|aO I I (fun hg=>aU m3 f7 I I)<|aO I I (fun hg=>am bp I I (aA I hg))<|aO I I (fun hg=>bz (aA I hg) hI)<|zo I (fV I I)<|ai<|bR h I (fun h=>?_) (fun h=>?_)
    ·refine aj<|zo I (dD)<|ai<|ah ?_;refine au (J ?_);cases so h;exact aw I I
    ·refine aP<|ac<|af<|aj<|zo rfl (dD)<|ai<|ah ?_;cases so h;exact aw I I
   ·refine aj<|zo I (d6 I)<|aS I<|ai<|bR h I (fun h=>?_) (fun h=>?_)
    ·refine aj<|zo I (aU lh eW I I)<|zo I (bf bp I I)<|av I<|zo I (dG (ht I) hI)<|zo I (bz (ht I) (ht I))<|av I<|aO I I (fun hg=>aU m3 f7 I I)<|aO I I (fun hg=>am bp I I (aA I hg))<|aO I I (fun hg=>bz (aA I hg) hI)<|zo I (fV I I)<|ai<|bR h I (fun h=>?_) (fun h=>?_)
     ·refine aj<|zo I (bf Cp I I)<|zo I (aU lh eW I I)<|zo I (bf bp I I)<|bA h fun r1 q_r1 h=>zo I (aG Je (ih _ _ q_r1) ⟨(ht I),(ht I),aZ⟩)<|aS I<|ai<|aj<|av I<|zo I (cH (ht I) hI)<|ai<|bR h I (fun h=>?_) (fun h=>?_)
      ·refine aj<|av I<|zo I (dI (ht I) hI)<|aS I<|ai<|ah ?_;refine au (J ?_);cases so h;exact aw I I
      ·refine aP<|ac<|af<|aj<|zo rfl (dD)<|ai<|ah ?_;cases so h;exact aw I I
     ·refine aP<|ac<|af<|aj<|zo rfl (dD)<|ai<|ah ?_;cases so h;exact aw I I
    ·refine aj<|zo I (d6 I)<|aS I<|ai<|bR h I (fun h=>?_) (fun h=>?_)
     ·refine aj<|zo I (aU m3 f7 I I)<|zo I (bf bp I I)<|av I<|zo I (dG (ht I) hI)<|zo I (bz (ht I) (ht I))<|ai<|bR h I (fun h=>?_) (fun h=>?_)
      ·refine aj<|zo I (bf Cp I I)<|zo I (aU m3 f7 I I)<|zo I (bf bp I I)<|bA h fun r2 q_r2 h=>zo I (aG Je (ih _ _ q_r2) ⟨(ht I),(ht I),aZ⟩)<|aS I<|ai<|aj<|av I<|zo I (cH (ht I) hI)<|av I<|aO I I (fun hg=>aU lh eW I I)<|aO I I (fun hg=>am bp I I (aA I hg))<|aO I I (fun hg=>aU m3 f7 I I)<|aO I I (fun hg=>am bp I I (aA I hg))<|aO I I (fun hg=>cw I)<|aO I I (fun hg=>dG (aA I hg) (aA I hg))<|aO I I (fun hg=>bz (aA I hg) (aA I hg))<|zo I (fV I I)<|ay ?_;refine af<|bR h rfl (fun h=>?_) (fun h=>?_)
       ·refine aj<|zo I (bf Cp I I)<|zo I (aU lh eW I I)<|zo I (bf bp I I)<|bA h fun r3 q_r3 h=>zo I (aG Je (ih _ _ q_r3) ⟨(ht I),(ht I),aZ⟩)<|aS I<|ai<|aj<|av I<|zo I (cH (ht I) hI)<|ai<|bR h I (fun h=>?_) (fun h=>?_)
        ·refine aj<|av I<|av I<|zo I (dI (ht I) (ht I))<|zo I (dI (ht I) hI)<|aS I<|ai<|ah ?_;refine au (J ?_);cases so h;exact aw I I
        ·refine aP<|ac<|af<|aj<|zo rfl (dD)<|ai<|ah ?_;cases so h;exact aw I I
       ·refine aP<|ac<|af<|aj<|zo rfl (dD)<|ai<|ah ?_;cases so h;exact aw I I
      ·refine aP<|ac<|af<|aj<|zo rfl (dD)<|ai<|ah ?_;cases so h;exact aw I I
     ·refine aP<|ac<|af<|aj<|zo rfl (dD)<|ai<|ah ?_;cases so h;exact aw I I
theorem Oy(l:dh)(at1:Int){R:Int}(h:xo l at1=some R):bk ba 179 [tD j5 l,cb at1] (cb R):=Mo ef l at1 h

end Go.Proofs.YtdohlidddcgfjaaGreat

