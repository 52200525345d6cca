/- cT of this claim: P2. -/
import Derived.Test.YtdohlidddcgfjaaGreatFaT
import Derived.Test.YtdohlidddcgfjaaGreatFaP1
set_option linter.all false
namespace Go.Proofs.YtdohlidddcgfjaaGreat
open Go
set_option maxRecDepth 100000

theorem Mj(n:Int){R:(List Int)}(h:ll n=some R):eN ba 232 [tV (.slice none 0 0),cb n] false cq 3 R:=by
 refine eN.of Tryz.func232 I I I fun w0 S0=>aj<|cd false cq 3<|zo I (aN sf)<|ai ?_;refine KI (Z:=lV n=some R) (Of:=[]) (Gf:=[(0,tV (.slice none 0 0)),(1,cb n)]) (fun h=>?_) (fun K=>?_)
 ·skip
  refine wP (Z:=fun s l c=>lU s=some R) (Of:=fun s l c=>[df cq 3 l c s]) (Gf:=fun s l c=>[(0,oY l c s)]) (fun s l c h=>?_) (fun K1=>?_)
  ·skip
   refine aj<|av I<|aS I<|ai<|ah ?_;cases so h;exact dL I I
  ·skip
   refine aj<|av I<|av I<|zo I (Df cR (ht I))<|av I<|zo I (Dd cR (ht I))<|zo I (dG (ht I) (ht I))<|zo I (dG (ht I) (ht I))<|aS I<|ai<|aj<|av I<|zo I (cH (ht I) hI)<|ai<|bR h I (fun h=>?_) (fun h=>?_)
   ·refine ae<|av I<|av I<|zo I (Df cR (ht I))<|zo I (FW cR bp (ht I) (ht I))<|av I<|bA h fun u q_u h=>bA h fun mk q_mk h=>eS (GB (r:=cq) (x:=(0:Int)) bp I I I I cR ov (fun _=>I) (ht I) (ht I) (L7 q_u) q_mk) I fun i=>av I<|zo I (Dd cR (ht I))<|bA h fun y q_y h=>zo I (ph cR bp I (.head _) (ht I) (ht I) q_y)<|EN q_y<|aS I<|ay ?_;exact bD (K1 y (i.h 0).1 (i.h 0).2 h) (aR I)
   ·refine aP<|MS false cq 3 ?_;exact bD (K1 sr none 0 h) (aR I)
 ·skip
  refine aj<|av I<|zo I (d8 (ht I) hI)<|ai<|bR h I (fun h=>?_) (fun h=>?_)
  ·refine ae ?_;exact(nn h).elim
  ·refine aP<|aX ?_;exact bD (K h) (aR I)
theorem Mk(slices:(List (List Int))){R:(List Int)}(h:iC slices=some R):eN ba 204 [dM (iW) slices] false cq 3 R:=by
 refine eN.of Tryz.func204 I I I fun w0 S0=>aj<|cd false cq 3<|zo I (aN sf)<|ai<|aj<|zo I (dD)<|ai<|aa<|aj<|av I<|zo I (d5 rN I)<|zo I (bm hI)<|ai<|ak<|aT (k:=9) I fun hN=>bn<|jv ?_;refine aD (q5 (Z:=fun ls i size=>(slices.drop i=ls)∧iN slices ls size=some R) (Of:=fun _ i size=>[]) (Gf:=fun _ i size=>[(0,dM (iW) slices),(3,cb size),(9,dM (iW) slices),(10,iB slices),(11,cb (i:Int))]) (fun i size h=>?_) (fun e tl ih i size h=>?_) slices 0 (0:Int) ⟨I,h⟩) (aR I)
 ·obtain⟨hx,h⟩:=h
  refine aq<|aj<|zo I (ek I I)<|ai<|aa<|bu (ht I) (de hx)<|bc ?_;refine M (M (aC ?_));refine af<|aj<|av rfl<|bA h fun r q_r h=>cY Tx (Mj _ q_r) ⟨hV,(ht I),aZ⟩ I fun l c=>aS I<|ai<|aa<|aj<|av I<|zo I (d5 rN I)<|zo I (bm hI)<|ai<|ak<|aT (k:=25) I fun hN1=>bn ?_;refine aD (gF (Z:=fun ls1 i1 newslice l1 c1=>(slices.drop i1=ls1)∧iM ls1 newslice=some R) (Of:=fun _ i1 newslice l1 c1=>[df cq 3 l1 c1 newslice]) (Gf:=fun _ i1 newslice l1 c1=>[(6,oY l1 c1 newslice),(25,dM (iW) slices),(26,iB slices),(27,cb (i1:Int))]) (fun i1 newslice l1 c1 h=>?_) (fun e1 tl1 ih1 i1 newslice l1 c1 h=>?_) slices 0 r l c ⟨I,h⟩) (aR I)
  ·obtain⟨hx1,h⟩:=h
   refine aq<|aj<|zo I (ek I I)<|ai<|aa<|bu (ht I) (de hx1)<|bc ?_;refine M (M (aC ?_));refine af<|aj<|av rfl<|aS rfl<|ai<|ah ?_;cases so h;exact dL I I
  ·obtain⟨hx1,h⟩:=h
   refine aq<|aj<|zo I (ek I I)<|ai<|aa<|bt (ht I) (cX hx1)<|dk<|aa<|ak<|aj<|zo I (gI rN bV I I I (cS hx1))<|zo I (bf bV I I)<|aS I<|ai<|ae<|av I<|av I<|bA h fun newslice1 q_newslice1 h=>be bp I I I I cR I I (ht I) (ht I) q_newslice1 fun l2 c2=>?_;refine aS I<|ay<|ac<|af<|ae<|zo rfl (jL (cy hx1 hN1) rfl)<|av rfl<|ay ?_;exact aM (aD (ih1 (i1+1) newslice1 l2 c2 ⟨cx hx1,h⟩) (aR I))
 ·obtain⟨hx,h⟩:=h
  refine aq<|aj<|zo I (ek I I)<|ai<|aa<|bt (ht I) (cX hx)<|dk<|aa<|ak<|aj<|zo I (gI rN bV I I I (cS hx))<|zo I (bf bV I I)<|aS I<|ai<|aj<|av I<|av I<|zo I (d5 cR I) ?_;refine zo I (dI (ht I) (ht I))<|aS I<|ai<|aj<|av I<|zo I (d8 (ht I) hI)<|ai<|bR h I (fun h=>?_) (fun h=>?_)
  ·refine ae ?_;exact(nn h).elim
  ·refine aP<|ac<|af<|ae<|zo rfl (jL (cy hx hN) rfl)<|av rfl<|ay ?_;exact aM (aD (ih (i+1) (IntKind.i64.wrap (size+(e.length:Int))) ⟨cx hx,h⟩) (aR I))
theorem On(slices:(List (List Int))){R:(List Int)}(h:iC slices=some R):bk ba 204 [dM (iW) slices] (iK R):=(Mk _ h).spec

theorem I2(tag:Int){R:Int}(h:qr tag=some R):bk ba 254 [cb tag] (cb R):=by
 refine bk.of Tryz.func254 I I I fun w0 S0=>aj<|zo I (dD)<|ai<|aa<|ak<|aj<|av I<|zo I (d6 I)<|av I<|bI I I (fun hg=>cw I)<|bI I I (fun hg=>bz (aA I hg) hI)<|zo I (kh I I)<|aS I<|ai<|bR h I (fun h=>?_) (fun h=>?_)
 ·refine aj<|zo I (dD)<|ai<|ah ?_;refine au (J ?_);cases so h;exact aw I I
 ·refine aj<|av I<|zo I (dc (ht I) hI)<|av I<|aO I I (fun hg=>cw I)<|aO I I (fun hg=>dV (aA I hg) hI)<|zo I (fV I I)<|aS I<|ai<|bR h I (fun h=>?_) (fun h=>?_)
  ·refine aj<|zo I (dD)<|ai<|ah ?_;refine au (J ?_);cases so h;exact aw I I
  ·refine aj<|av I<|zo I (dc (ht I) hI)<|av I<|aO I I (fun hg=>cw I)<|aO I I (fun hg=>dV (aA I hg) hI)<|zo I (fV I I)<|aS I<|ai<|bR h I (fun h=>?_) (fun h=>?_)
   ·refine aj<|zo I (dD)<|ai<|ah ?_;refine au (J ?_);cases so h;exact aw I I
   ·refine aP<|ac<|af<|aj<|zo rfl (dD)<|ai<|ah ?_;cases so h;exact aw I I

theorem N6(v:aF){R:aF}(h:vn v=some R):bk ba 239 [tD bF v] (tD bF R):=by
 refine bk.of Tryz.func239 I I I fun w0 S0=>aj<|wL (ht I) I fun b=>bJ (r:=bF) (x:=DH) ft (fun _=>ni _) I fun b1=>ai<|aa<|aj<|zo I (fe 0 nc I I I)<|zo I (br bp I I jB (.tail _ (.head _)) (ht I))<|ai ?_;refine DB (Z:=fun v1=>jX v1=some R) (Of:=fun v1=>[bx bF 104 b v1,bx bF 104 b1 DH]) (Gf:=fun v1=>[(1,tV (aL b 0)),(2,tV (aL b1 0))]) (fun v1 h=>?_) (fun K=>?_)
 ·skip
  refine af<|aj<|zo rfl (br ft rfl rfl cA (.head _) (ht rfl))<|bT<|aQ ft rfl aY rfl (ht rfl) (ht rfl)<|bE 2 rfl<|ai<|ah<|aX ?_;cases so h;exact Cc I ft I I I
 ·skip
  refine aa<|ak<|aa<|ak<|aa ?_;refine DB (Z:=fun v2=>pw v2=some R) (Of:=fun v2=>[bx bF 104 b v2,bx bF 104 b1 DH]) (Gf:=fun v2=>[(1,tV (aL b 0)),(2,tV (aL b1 0))]) (fun v2 h=>?_) (fun K1=>?_)
  ·skip
   refine af<|aj<|zo rfl (fe 0 nc rfl rfl rfl)<|aQ bp rfl xi rfl (ht rfl) hI<|ai<|bc ?_;refine cF I (M (cF I (M (aC ?_))));exact bD (K (aF.mk (0:Int) v2.N v2.U v2.S) h) (aR I)
  ·skip
   refine aa ?_;refine KP (Z:=pu v=some R) (Of:=[bx bF 104 b v,bx bF 104 b1 DH]) (Gf:=[(1,tV (aL b 0)),(2,tV (aL b1 0))]) (fun h=>?_) (fun K2=>?_)
   ·skip
    refine af<|ae<|zo rfl (fe 1 ou rfl rfl rfl)<|aQ Iy rfl A3 rfl (ht rfl) hI<|ay<|ac ?_;exact bD (K1 (aF.mk v.Kind (0:Int) v.U v.S) h) (aR I)
   ·skip
    refine aa<|ak<|aa<|aa<|aj<|zo I (d6 I)<|aS I<|ai<|bR h I (fun h=>?_) (fun h=>?_)
    ·refine bc ?_;refine M (M (aC ?_));refine af<|aj<|zo rfl (fe 1 ou rfl rfl rfl)<|zo rfl (br Iy rfl rfl jA (.tail _ (.head _)) (ht rfl))<|zo rfl (Aq rfl)<|av rfl<|aO rfl rfl (fun hg=>fe 1 ou I I I)<|aO I I (fun hg=>br Iy I I jA (.tail _ (.head _)) (aA I hg))<|aO I I (fun hg=>bM (aA I hg) hI)<|zo I (fV I I)<|ai<|bR h I (fun h=>?_) (fun h=>?_)
     ·refine bc ?_;refine cF I (M (cF I (M (cF I (M (cF I (M (aC ?_))))))));refine aV ?_;exact bD (K v h) (aR I)
     ·refine aP<|ac<|aV ?_;exact bD (K2 h) (aR I)
    ·refine dk<|aa<|aj<|zo I (d6 I)<|aS I<|ai<|bR h I (fun h=>?_) (fun h=>?_)
     ·refine bc ?_;refine M (M (cF I (M (aC ?_))));refine aV ?_;exact bD (K2 h) (aR I)
     ·refine dk<|aa<|aj<|zo I (d6 I)<|aS I<|ai<|bR h I (fun h=>?_) (fun h=>?_)
      ·refine bc ?_;refine M (M (cF I (M (cF I (M (aC ?_))))));refine aV ?_;exact bD (K1 v h) (aR I)
      ·refine dk<|aa<|aj<|zo I (d6 I)<|aS I<|ai<|bR h I (fun h=>?_) (fun h=>?_)
       ·refine bc ?_;refine M (M (cF I (M (cF I (M (cF I (M (aC ?_))))))));refine af ?_;refine dj (Z:=fun v3=>pt v3=some R) (Of:=fun v3=>[bx bF 104 b v3,bx bF 104 b1 DH]) (Gf:=fun v3=>[(1,tV (aL b 0)),(2,tV (aL b1 0))]) (fun v3 h=>?_) (fun K3=>?_)
        ·skip
         refine bc ?_;refine cF I (M (aC ?_));exact bD (K v3 h) (aR I)
        ·skip
         refine aj<|zo I (fe 3 oT I I I)<|zo I (br JD I I jz (.tail _ (.head _)) (ht I))<|zo I (wv Ad (ht I))<|zo I (dV (ht I) hI)<|ai<|bR h I (fun h=>?_) (fun h=>?_)
         ·refine ae<|zo I (fe 0 nc I I I)<|bT<|aQ bp I xi I (ht I) hI<|zo I (fe 3 oT I I I)<|aQ JD I Hk I (ht I) hS<|ay ?_;exact bD (K3 (aF.mk (0:Int) v.N v.U ([])) h) (aR I)
         ·refine aP<|aV ?_;exact bD (K3 v h) (aR I)
       ·refine dk<|aj<|zo I (d6 I)<|aS I<|ai<|bR h I (fun h=>?_) (fun h=>?_)
        ·refine bc ?_;refine M (cF I (M (cF I (M (cF I (M (cF I (M (aC ?_)))))))));refine af<|aj<|zo rfl (fe 0 nc rfl rfl rfl)<|bT<|aQ bp rfl xi rfl (ht rfl) hI<|zo rfl (fe 1 ou rfl rfl rfl)<|aQ Iy rfl A3 rfl (ht rfl) hI<|zo rfl (fe 2 wD rfl rfl rfl)<|aQ jZ rfl Hl rfl (ht rfl) hI<|ai<|bc<|aC ?_;exact bD (K (aF.mk (0:Int) (0:Int) (0:Int) v.S) h) (aR I)
        ·refine dk<|bc ?_;refine cF I (M (cF I (M (cF I (M (cF I (M (cF I (M (aC ?_))))))))));refine aV ?_;exact bD (K v h) (aR I)

theorem Ev(v:aF){R:Int}(h:pb v=some R):bk ba 210 [tD bF v] (cb R):=by
 refine bk.of Tryz.func210 I I I fun w0 S0=>aj<|zo I (kp I)<|zo I (dD)<|ai<|aa<|aj<|zo I (bf ft I I)<|bA h fun r q_r h=>zo I (aG Tq (N6 _ q_r) ⟨(ht I),aZ⟩)<|zo I (fX (y:=DH) ft Dm ni (I))<|zo I (rz zT (ht I) (ht I))<|ai<|bR h I (fun h=>?_) (fun h=>?_)
 ·refine aj<|zo I (dD)<|ai<|ah<|J ?_;cases so h;exact aw I I
 ·refine dk<|aj<|zo I (dD)<|ai<|ah ?_;cases so h;exact aw I I

theorem NR(v:aF){R:Bool}(h:sy v=some R):bk ba 265 [tD bF v] (fx R):=by
 refine bk.of Tryz.func265 I I I fun w0 S0=>aj<|zo I (kp I)<|zo I (dd)<|ai<|aj<|zo I (bf ft I I)<|bA h fun r q_r h=>zo I (aG MA (Ev _ q_r) ⟨(ht I),aZ⟩)<|zo I (d6 I)<|av I<|aO I I (fun hg=>aU nc jB I I)<|aO I I (fun hg=>am bp I I (aA I hg))<|aO I I (fun hg=>bM (aA I hg) hI)<|zo I (fV I I)<|aS I<|ai<|ah ?_;cases so h;exact aw I I

theorem NV(n:bC){R:Bool}(h:sY n=some R):bk ba 260 [tD bG n] (fx R):=by
 refine bk.of Tryz.func260 I I I fun w0 S0=>aj<|zo I (kp I)<|zo I (dd)<|ai<|aa<|aj<|zo I (aU iU eo I I)<|zo I (bf bp I I)<|ai<|ak<|aj<|zo I (d6 I)<|aS I<|ai<|bR h I (fun h=>?_) (fun h=>?_)
 ·refine aj<|zo I (aU pM jC I I)<|zo I (bf ft I I)<|bA h fun r q_r h=>zo I (aG Ta (NR _ q_r) ⟨(ht I),aZ⟩)<|av I<|aO I I (fun hg=>aU na gO I I)<|aO I I (fun hg=>am bp I I (aA I hg))<|aO I I (fun hg=>bz (aA I hg) hI)<|zo I (fV I I)<|aS I<|ai<|ah ?_;refine au (J ?_);cases so h;exact aw I I
 ·refine aj<|zo I (d6 I)<|aS I<|ai<|bR h I (fun h=>?_) (fun h=>?_)
  ·refine aj<|zo I (aU pM jC I I)<|zo I (bf ft I I)<|zo I (fX (y:=DH) ft Dm ni (I))<|zo I (wx zT (ht I) (ht I))<|av I<|aO I I (fun hg=>aU na gO I I)<|aO I I (fun hg=>am bp I I (aA I hg))<|aO I I (fun hg=>dc (aA I hg) hI)<|zo I (fV I I)<|av I<|aO I I (fun hg=>aU na gO I I)<|aO I I (fun hg=>am bp I I (aA I hg))<|aO I I (fun hg=>d8 (aA I hg) hI)<|zo I (fV I I)<|aS I<|ai<|ah ?_;refine au (J ?_);cases so h;exact aw I I
  ·refine aP<|ac<|af<|aj<|zo rfl (aU pM jC rfl rfl)<|zo rfl (bf ft rfl rfl)<|zo rfl (fX (y:=DH) ft Dm ni (I))<|zo I (wx zT (ht I) (ht I))<|av I<|aO I I (fun hg=>aU na gO I I)<|aO I I (fun hg=>am bp I I (aA I hg))<|aO I I (fun hg=>bz (aA I hg) hI)<|zo I (fV I I)<|aS I<|ai<|ah ?_;cases so h;exact aw I I

theorem NZ(e:bv){R:(List Int)×Bool}(h:vY e=some R):bk ba 250 [tD bL e] (tT [iK R.1,fx R.2]):=by
 refine bk.of Tryz.func250 I I I fun w0 S0=>aj<|zo I (kp I)<|zo I (aN (show aK _ _ _ qN from iE))<|zo I (dd)<|ai<|aj<|cd false cq 3<|zo I (aN sf)<|cd false cq 3<|zo I (aN sf)<|ai<|aa<|aj<|zo I (aU fd di I I)<|zo I (bf lN I I)<|zo I (d5 jh I)<|zo I (bm hI)<|ay ?_;refine af<|ak<|aT (k:=15) I fun hN=>bn<|dB ?_;refine aD (B3 (Z:=fun ls i all l c open1 l1 c1=>(e.Nodes.drop i=ls)∧kg ls i all open1=some R) (Of:=fun _ i all l c open1 l1 c1=>[df cq 3 l c all,df cq 3 l1 c1 open1]) (Gf:=fun _ i all l c open1 l1 c1=>[(4,oY l c all),(5,oY l1 c1 open1),(15,dM (bG) e.Nodes),(16,iB e.Nodes),(17,cb (i:Int))]) (fun i all l c open1 l1 c1 h=>?_) (fun e1 tl ih i all l c open1 l1 c1 h=>?_) e.Nodes 0 sr none 0 sr none 0 ⟨I,h⟩) (aR I)
 ·obtain⟨hx,h⟩:=h
  refine aq<|aj<|zo I (ek I I)<|ai<|aa<|bu (ht I) (de hx)<|bc ?_;refine M (M (aC ?_));refine af<|aj<|av rfl<|av rfl<|zo rfl (hY cR (.tail _ (.head _)) (ht rfl))<|zo rfl (d6 rfl)<|av rfl<|aO rfl rfl (fun hg=>cw I)<|aO I I (fun hg=>hY cR (.head _) (aA I hg))<|aO I I (fun hg=>dV (aA I hg) hI)<|zo I (fV I I)<|aS I<|aS I<|ai<|ah<|ea<|bS 4 I<|bS 84 I<|bS 2 I<|fT 2 I<|aX<|aX ?_;cases so h;exact bQ I I I
 ·obtain⟨hx,h⟩:=h
  refine aq<|aj<|zo I (ek I I)<|ai<|aa<|bt (ht I) (cX hx)<|dk<|aa<|ak<|aj<|av I<|zo I (gI jh eb I I I (cS hx))<|zo I (bf eb I I)<|bJ (r:=bG) (x:=AQ) eb (fun _=>lp _) I fun b=>aS I<|aQ eb I aY I (ht I) (ht I)<|bE 7 I<|ai<|aa ?_;refine ae<|zo I (aU iU eo I I)<|zo I (bf bp I I)<|bA h fun r q_r h=>zo I (aG PF (I2 _ q_r) ⟨(ht I),aZ⟩)<|aS I<|ai<|aa<|aj<|av I<|zo I (d8 (ht I) hI)<|av I<|bI I I (fun hg=>cw I)<|bI I I (fun hg=>cw I)<|bI I I (fun hg=>hY cR (.tail _ (.head _)) (aA I hg))<|bI I I (fun hg=>cH (aA I hg) (aA I hg))<|zo I (kh I I)<|av I<|bA h fun t q_t h=>bI I I (fun hg=>bf eb I I) ?_
  obtain⟨r1,h1t,h0t⟩:=og q_t
  have q_r1g:=fun hb=>(h1t hb).1
  refine bI I I (fun hg=>aG Td (NV _ (q_r1g hg)) ⟨(aA I hg),aZ⟩)<|bI I I (fun hg=>dP (aA I hg))<|zo I (fF (ht I) (fun hb=>(aA I (oH hb))) (fun hb=>(h1t hb).2) h0t)<|ai<|bR h I (fun h=>?_) (fun h=>?_)
  ·refine aj<|zo I (aN (show aK _ _ _ qN from iE))<|zo I (dd)<|ai<|ah ?_;refine J (au (J (J (au (J ?_)))));refine aX<|aX ?_;cases so h;exact bQ I I I
  ·refine dk<|aj<|av I<|av I<|zo I (hY cR (.tail _ (.head _)) (ht I))<|av I<|zo I (dG (ht I) (ht I))<|bA h fun y q_y h=>zo I (pg cR bp I (.tail _ (.head _)) (ht I) (ht I) q_y)<|pP (.tail _ (.head _)) q_y fun hv=>aS I<|ai<|aj<|zo I (rK (r:=cq) (ys:=[xR,xR]) (xs:=[.const (.int .i64 (-1)),.const (.int .i64 (-1))]) AN bp I wY I I ⟨hI,hI,aZ⟩)<|bJ (r:=Cm) (x:=(List.replicate 2 (0:Int))) wY (fun _=>yI (r:=cq) 2 (fun _=>I) _) I fun b1=>aQ wY I aY I (ht I) (ht I)<|ai<|aj ?_;refine av I<|aS I<|ai<|aa<|aj<|av I<|zo I (IL cR (.tail _ (.tail _ (.head _))) q_y (ht I))<|zo I (bm hI)<|ai<|ak ?_
   have hN1:=hv.2
   refine bn<|po<|po ?_;refine aD (B4 (Z:=fun ls1 i1 first at1=>(y.drop i1=ls1)∧lG (kg tl) i e1 all open1 r ls1 i1 first at1=some R) (Of:=fun _ i1 first at1=>[df cq 3 l c all,df cq 3 l1 c1 open1,bx Cm 209 b1 at1]) (Gf:=fun _ i1 first at1=>[(4,oY l c all),(5,oY l1 c1 open1),(6,cb (i:Int)),(7,ce bG e1),(8,cb r),(10,tV (aL b1 0)),(11,cb first),(15,dM (bG) e.Nodes),(16,iB e.Nodes),(17,cb (i:Int)),(46,tV (m0 1 l1 c1 (IntKind.i64.wrap ((open1.length:Int)-r)).toNat y.length)),(47,iB y),(48,cb (i1:Int))]) (fun i1 first at1 h=>?_) (fun e2 tl1 ih1 i1 first at1 h=>?_) y 0 (i:Int) Ju ⟨I,h⟩) (aR I)
   ·obtain⟨hx1,h⟩:=h
    refine aq<|aj<|zo I (ek I I)<|ai<|aa<|bu (ht I) (de hx1)<|bc ?_;refine M (M (aC ?_));refine af<|aa<|aj<|zo rfl (br wY rfl rfl cA (.tail _ (.tail _ (.head _))) (ht rfl))<|zo rfl (aU qH nR rfl rfl)<|zo rfl (bf bp rfl rfl)<|zo rfl (aU pN mb rfl rfl)<|zo rfl (bf bp rfl rfl)<|zo rfl (rK (r:=cq) (ys:=[e1.L,e1.R]) (xs:=[.tmp 65,.tmp 67]) AN bp I wY I I ⟨(ht I),(ht I),aZ⟩)<|zo I (rz PC (ht I) (ht I))<|ai<|bR h I (fun h=>?_) (fun h=>?_)
    ·refine aj<|zo I (aN (show aK _ _ _ qN from iE))<|zo I (dd)<|ai<|ah ?_;refine J (au (J (J (au (J ?_)))));refine aX<|aX<|aX ?_;cases so h;exact bQ I I I
    ·refine dk<|aj<|av I<|av I<|zo I (aH (r:=cq) (ys:=[first]) (xs:=[.tmp 71]) cR bp I I I I I ⟨(ht I),aZ⟩)<|bA h fun all1 q_all1 h=>be bp I I I I cR I I (ht I) (ht I) q_all1 fun l2 c2=>aS I<|ai<|ae<|av I<|av I<|zo I (hY cR (.tail _ (.head _)) (ht I))<|av I<|zo I (dG (ht I) (ht I))<|bA h fun y1 q_y1 h=>zo I (ph cR bp I (.tail _ (.head _)) (ht I) (ht I) q_y1)<|av I<|zo I (aH (r:=cq) (ys:=[(i:Int)]) (xs:=[.tmp 80]) cR bp I I I I I ⟨(ht I),aZ⟩)<|bT<|EN q_y1 ?_;refine bA h fun open2 q_open2 h=>be bp I I I I cR I I (ht I) (ht I) q_open2 fun l3 c3=>aS I<|ay<|ac<|af<|ae<|zo rfl (jL (cy hx hN) rfl)<|av rfl<|ay<|bl<|aX<|aV ?_;exact aM (aD (ih (i+1) all1 l2 c2 open2 l3 c3 ⟨cx hx,h⟩) (aR I))
   ·obtain⟨hx1,h⟩:=h
    refine aq<|aj<|zo I (ek I I)<|ai<|aa<|bt (ht I) (cX hx1)<|dk<|aa<|ak<|aj<|av I<|zo I (w6 cR bp I (.tail _ (.head _)) q_y (ht I) (ht I) (cS hx1))<|zo I (jc (r:=cq) (i:=((IntKind.i64.wrap ((open1.length:Int)-r))+(i1:Int))) (foff:=0) bp I I cA I (.tail _ (.head _)) (xh q_y (cS hx1)).1 (ht I))<|aS I<|aS I<|ai<|bA h fun e3 q_e3 h=>bA h fun e4 q_e4 h=>bA h fun ar q_ar h=>?_
    refine lJ 10 [tc (cb (i1:Int)),tc (cb e2),tc (cb first),tc (oY l c all),tc (cb e2),tc (tV (xB l (e2.toNat*1+0))),tc (cb e3),tc (cb (min first e3)),tc (tV (aL b1 ((i1:Int).toNat*1))),tc (Fn)] [false,false,false,false,false,false,false,false,false,true] [fun _=>[df cq 3 l c all,df cq 3 l1 c1 open1,bx Cm 209 b1 at1],fun sg=>[bx Cm 209 b1 ar,df cq 3 l c all,df cq 3 l1 c1 open1]] I mixed I I I I I
     ⟨⟨[⟨12,fun _=>tD cq (i1:Int),none⟩],_,0,0,I,⟨(fun _=>I),aZ⟩,I,I,I,I,I,fun _ sg _ _=>aB I (cw I)⟩,
     ⟨⟨[⟨13,fun _=>tD cq e2,none⟩],_,0,0,I,⟨(fun _=>I),aZ⟩,I,I,I,I,I,fun _ sg _ _=>aB I (cw I)⟩,
     ⟨⟨[⟨11,fun _=>tD cq first,none⟩],_,0,1,I,⟨(fun _=>I),aZ⟩,I,I,I,I,I,fun _ sg _ _=>aB I (cw I)⟩,
     ⟨⟨[⟨4,fun _=>tV (ax l c all.length),none⟩],_,0,1,I,⟨(fun _=>I),aZ⟩,I,I,I,I,I,fun _ sg _ _=>aB I (cw I)⟩,
     ⟨⟨[⟨13,fun _=>tD cq e2,none⟩],_,0,1,I,⟨(fun _=>I),aZ⟩,I,I,I,I,I,fun _ sg _ _=>aB I (cw I)⟩,
     ⟨⟨[⟨56,fun _=>tV (ax l c all.length),some 3⟩,⟨57,fun _=>tD cq e2,some 4⟩],_,0,1,I,⟨(fun _=>I),(fun _=>I),aZ⟩,I,I,I,I,I,Jy (fun sg=>aB I (eh cR bp (.head _) (ht I) (ht I) q_e3)) (u3 (fun sg=>aB I (eh cR bp (.tail _ (.head _)) (ht I) (ht I) q_e3)))⟩,
     ⟨⟨[⟨58,fun _=>tV (xB l (e2.toNat*1+0)),some 5⟩],_,0,1,I,⟨(fun _=>I),aZ⟩,I,I,I,I,I,Jy (fun sg=>aB I (jc (r:=cq) (i:=e2) (foff:=0) bp I I cA I (.head _) q_e3 (ht I))) (u3 (fun sg=>aB I (jc (r:=cq) (i:=e2) (foff:=0) bp I I cA I (.tail _ (.head _)) q_e3 (ht I))))⟩,
     ⟨⟨[⟨55,fun _=>tD cq first,some 2⟩,⟨59,fun _=>tD cq e3,some 6⟩],_,0,1,I,⟨(fun _=>I),(fun _=>I),aZ⟩,I,I,I,I,I,fun _ sg _ _=>aB I (Nv (ht I) (ht I))⟩,
     ⟨⟨[⟨10,fun _=>tV (aL b1 0),none⟩,⟨53,fun _=>tD cq (i1:Int),some 0⟩],_,0,0,I,⟨(fun _=>I),(fun _=>I),aZ⟩,I,I,I,I,I,u3 (fun sg=>aB I (iS AN bp (.tail _ (.tail _ (.head _))) (ht I) (ht I) q_e4))⟩,
     ⟨⟨[⟨61,fun _=>tV (aL b1 ((i1:Int).toNat*1)),some 8⟩,⟨54,fun _=>tD cq e2,some 1⟩],_,I,⟨(fun _=>I),(fun _=>I),aZ⟩,I,I,I,fun sg=>gP I (EffOK.fr2 (H3 bp I q_e4 (so q_ar) (ht I) (ht I)))⟩,
     aZ⟩⟩⟩⟩⟩⟩⟩⟩⟩⟩ (fun sg=>?_)
    refine(show RG _ _ _ _ [bx Cm 209 b1 ar,df cq 3 l c all,df cq 3 l1 c1 open1] _ from ?_);refine aS I<|ay<|ac<|af<|ae<|zo rfl (jL (cy hx1 hN1) rfl)<|av rfl<|ay<|bl<|bl ?_;exact aM (aD (ih1 (i1+1) (min first e3) ar ⟨cx hx1,h⟩) (aR I))

theorem I3(e:bv){R:Int}(h:sk e=some R):bk ba 233 [tD bL e] (cb R):=by
 refine bk.of Tryz.func233 I I I fun w0 S0=>aj<|zo I (kp I)<|zo I (dD)<|ai<|aa<|aj<|zo I (bf fv I I)<|bA h fun r q_r h=>zo I (aG Tj (NZ _ q_r) ⟨(ht I),aZ⟩)<|av I<|zo I (nj I I)<|zo I (nj I I)<|aS I<|aS I<|ai<|aj<|av I<|zo I (dP (ht I)) ?_;refine ai<|bR h I (fun h=>?_) (fun h=>?_)
 ·refine aj<|zo I (dD)<|ai<|ah<|J ?_;cases so h;exact aw I I
 ·refine dk<|aj<|zo I (dD)<|ai<|ah ?_;cases so h;exact aw I I

theorem Rh(l:Option Nat)(c:Nat)(s:(List Int)){R:(List Int)}(h:jI s=some R):dK ba 252 [oY l c s] [df cq 3 l c s] (fun i:OI=>oY (i.h 0).1 (i.h 0).2 R) (fun i=>[df cq 3 (i.h 0).1 (i.h 0).2 R]):=by
 refine dK.of Tryz.func252 I I I fun w0 S0=>aj<|cd false cq 3<|zo I (aN sf)<|ai<|aa<|aj<|av I<|zo I (hY cR (.tail _ (.head _)) (ht I))<|zo I (d8 (ht I) hI)<|ai<|bR h I (fun h=>?_) (fun h=>?_)
 ·refine aj<|av I<|aS I<|ai<|ah<|J<|aX ?_;cases so h;exact ee I (oi l c) I I (fun _ _ h=>h)
 ·refine dk<|aa<|aj<|zo I (dD)<|ai<|ak<|yR (.tail _ (.head _)) fun hN=>bn<|jv ?_;refine aD (dv (Z:=fun ls i=>(s.drop i=ls)∧fg s ls i=some R) (Of:=fun _ i=>[df cq 3 l c s]) (Gf:=fun _ i=>[(0,oY l c s),(3,cb (i:Int))]) (fun i h=>?_) (fun e tl ih i h=>?_) (s.drop (1)) 1 ⟨I,h⟩) (aR I)
  ·obtain⟨hx,h⟩:=h
   refine aq<|aa<|aj<|av I<|av I<|zo I (hY cR (.head _) (ht I))<|zo I (ek I I)<|ai<|bu (ht I) (de hx)<|bc ?_;refine M (M (aC ?_));refine af<|aj<|av rfl<|aS rfl<|ai<|ah ?_;cases so h;exact ee I (oi l c) I I (fun _ _ h=>h)
  ·obtain⟨hx,h⟩:=h
   refine aq<|aa<|aj<|av I<|av I<|zo I (hY cR (.head _) (ht I))<|zo I (ek I I)<|ai<|bt (ht I) (cX hx)<|dk<|aa<|ak<|aa<|bA h fun e1 q_e1 h=>?_
   refine fq (ts:=[_,_,_,_,_,_,_,_,_,_]) mixed I I
    ⟨im 0 I I I (cw I),
    ⟨im 3 I I I (cw I),
    ⟨eF 16 0 17 1 I I I I (eh cR bp (.head _) (ht I) (ht I) (cS hx)),
    ⟨dQ 18 2 I I I (jc (r:=cq) (i:=(i:Int)) (foff:=0) bp I I cA I (.head _) (cS hx) (ht I)),
    ⟨im 0 I I I (cw I),
    ⟨im 3 I I I (cw I),
    ⟨dQ 21 5 I I I (dG (ht I) hI),
    ⟨eF 20 4 22 6 I I I I (eh cR bp (.head _) (ht I) (ht I) q_e1),
    ⟨dQ 23 7 I I I (jc (r:=cq) (i:=(IntKind.i64.wrap ((i:Int)-(1:Int)))) (foff:=0) bp I I cA I (.head _) q_e1 (ht I)),
    ⟨eF 19 3 24 8 I I I I (bz (ht I) (ht I)),
    aZ⟩⟩⟩⟩⟩⟩⟩⟩⟩⟩ ?_
   refine af<|bR h rfl (fun h=>?_) (fun h=>?_)
   ·refine aj<|av I<|av I<|bA h fun y q_y h=>zo I (pg cR bp I (.head _) (ht I) (ht I) q_y)<|pP (.head _) q_y fun hv=>aS I<|ai<|aa<|aj<|zo I (dD)<|ai<|ak<|bn ?_;refine aD (EQ (Z:=fun k1 i1 s1 k=>(y.length-i1=k1)∧em i y k1 i1 s1 k=some R) (Of:=fun _ i1 s1 k=>[df cq 3 l c s1]) (Gf:=fun _ i1 s1 k=>[(0,oY l c s1),(3,cb k),(4,tV (m0 1 l c (i:Int).toNat y.length)),(5,cb (i1:Int))]) (fun i1 s1 k h=>?_) (fun k2 ih1 i1 s1 k h=>?_) (y.length-1) 1 s (i:Int) ⟨I,h⟩) (aR I)
    ·obtain⟨hx1,h⟩:=h
     refine aq<|aa<|aj<|av I<|av I<|zo I (IK cR hv.1 (ht I))<|zo I (ek I I)<|ai<|bu (ht I) (NA hx1)<|bc ?_;refine M (M (aC ?_));refine af<|aj<|av rfl<|av rfl<|bA h fun y1 q_y1 h=>zo I (pg cR bp I (.head _) (ht I) (ht I) q_y1)<|pP (.head _) q_y1 fun hv1=>bA h fun cl q_cl h=>KE bp I I cR (fun _=>I) I q_y1 (ht I) (so q_cl)<|pn (Dw q_y1 (so q_cl)) 0 I<|pn (Dw q_y1 (so q_cl)) 54 I<|ai<|aj<|av I<|av I<|bA h fun y2 q_y2 h=>zo I (ph cR bp I (.head _) (ht I) (ht I) q_y2)<|EN q_y2<|aS I<|ai ?_;refine ah ?_;refine au (J (J (au (J ?_))));cases so h;exact ee I (oi l c) I I (fun _ _ h=>h)
    ·obtain⟨hx1,h⟩:=h
     refine aq<|aa<|aj<|av I<|av I<|zo I (IK cR hv.1 (ht I))<|zo I (ek I I)<|ai<|bt (ht I) (Nz hx1)<|dk<|aa<|ak<|aa<|bA h fun e3 q_e3 h=>bA h fun e4 q_e4 h=>?_
     refine fq (ts:=[_,_,_,_,_,_,_,_,_,_]) mixed I I
      ⟨im 4 I I I (cw I),
      ⟨im 5 I I I (cw I),
      ⟨eF 35 0 36 1 I I I I (tf cR bp I (.head _) (y8 q_y) (ht I) (ht I) q_e3),
      ⟨dQ 37 2 I I I (jc (r:=cq) (i:=((i:Int)+(i1:Int))) (foff:=0) bp I I cA I (.head _) (wB q_e3).2.2 (ht I)),
      ⟨im 4 I I I (cw I),
      ⟨im 5 I I I (cw I),
      ⟨dQ 40 5 I I I (dG (ht I) hI),
      ⟨eF 39 4 41 6 I I I I (tf cR bp I (.head _) (y8 q_y) (ht I) (ht I) q_e4),
      ⟨dQ 42 7 I I I (jc (r:=cq) (i:=((i:Int)+(IntKind.i64.wrap ((i1:Int)-(1:Int))))) (foff:=0) bp I I cA I (.head _) (wB q_e4).2.2 (ht I)),
      ⟨eF 38 3 43 8 I I I I (bM (ht I) (ht I)),
      aZ⟩⟩⟩⟩⟩⟩⟩⟩⟩⟩ ?_
     refine af<|bR h rfl (fun h=>?_) (fun h=>?_)
     ·refine aj<|av I<|av I<|av I<|av I<|bA h fun e5 q_e5 h=>zo I (tf cR bp I (.head _) (y8 q_y) (ht I) (ht I) q_e5)<|zo I (jc (r:=cq) (i:=((i:Int)+(i1:Int))) (foff:=0) bp I I cA I (.head _) (wB q_e5).2.2 (ht I))<|bA h fun e6 q_e6 h=>zo I (eh cR bp (.head _) (ht I) (ht I) q_e6)<|bA h fun st q_st h=>wJ bp I aY I q_e6 (so q_st) (ht I) (ht I)<|pn (sE (so q_st)) 0 I<|pn (sE (so q_st)) 45 I<|ai<|ae<|av I<|zo I (dI (ht I) hI)<|aS I<|ay<|ac<|af ?_;refine ae<|av I<|zo I (ww (LM hx1 (SK hv.2)) (ht I) hI)<|aS I<|ay ?_;exact aM (aD (ih1 (i1+1) st (IntKind.i64.wrap (k+(1:Int))) ⟨LL hx1,h⟩) (aR I))
     ·refine aP<|ac<|af<|ae<|av rfl<|zo rfl (ww (LM hx1 (SK hv.2)) (ht rfl) hI)<|aS rfl<|ay ?_;exact aM (aD (ih1 (i1+1) s1 k ⟨LL hx1,h⟩) (aR I))
   ·refine aP<|ac<|af<|ae<|av rfl<|zo rfl (jL (cy hx hN) rfl)<|aS rfl<|ay ?_;exact aM (aD (ih (i+1) ⟨cx hx,h⟩) (aR I))

end Go.Proofs.YtdohlidddcgfjaaGreat

