/- cT of this claim: P16. -/
import Derived.Test.YtdohlidddcgfjaaGreatFaT
import Derived.Test.YtdohlidddcgfjaaGreatFaP15
set_option linter.all false
namespace Go.Proofs.YtdohlidddcgfjaaGreat
open Go
set_option maxRecDepth 100000

theorem Ox(n:ap)(a1:(List Int))(b:(List Int)){R:(List Int)×Bool}(h:cD n a1 b=some R):bk ba 180 [tD aJ n,iK a1,iK b] (tT [iK R.1,fx R.2]):=by
 refine bk.of Tryz.func180 I I I fun w0 S0=>aj<|zo I (kp I)<|zo I (aN (show aK _ _ _ qN from iE))<|zo I (dd)<|ai<|aj<|cd false cq 3<|zo I (aN sf)<|ai<|aj<|zo I (dd)<|ai<|aa<|aj<|zo I (aU eJ cg I I)<|zo I (bf bp I I) ?_;refine ai<|ak<|aj<|zo I (d6 I)<|aS I<|ai<|bR h I (fun h=>?_) (fun h=>?_)
 ·refine aa<|aj<|zo I (dD)<|ai<|ak<|bn<|jv ?_;refine aD (wN (Z:=fun n1 ok i=>hM n n1 ok i=some R) (Of:=fun ok i=>[]) (Gf:=fun ok i=>[(3,ce aJ n),(9,fx ok),(10,cb i)]) (fun ok i h=>nn h) (fun n1 ih ok i h=>?_) ef true (0:Int) h) (aR I);refine aq<|aa<|aj<|av I<|zo I (aU iH dz I I)<|zo I (bf bV I I)<|zo I (d5 cR I)<|zo I (ek I I)<|ai<|bR h I (fun h=>?_) (fun h=>?_)
  ·refine dk<|aa<|ak<|ae<|av I<|av I<|bA h fun t q_t h=>aO I I (fun hg=>aU iH dz I I)<|aO I I (fun hg=>am bV I I (aA I hg))<|aO I I (fun hg=>cw I) ?_
   obtain⟨e,h1t,h0t⟩:=og q_t
   have q_eg:=fun hb=>(h1t hb).1
   refine aO I I (fun hg=>eT cR bp I (aA I hg) (aA I hg) (q_eg hg))<|aO I I (fun hg=>am bp I I (aA I hg))<|aO I I (fun hg=>dc (aA I hg) hI)<|zo I (bN (ht I) (fun hb=>(aA I hb)) (fun hb=>(h1t hb).2) h0t)<|av I<|bA h fun t1 q_t1 h=>aO I I (fun hg=>aU iH dz I I)<|aO I I (fun hg=>am bV I I (aA I hg))<|aO I I (fun hg=>cw I) ?_
   obtain⟨e1,h1t1,h0t1⟩:=og q_t1
   have q_e1g:=fun hb=>(h1t1 hb).1
   refine aO I I (fun hg=>eT cR bp I (aA I hg) (aA I hg) (q_e1g hg))<|aO I I (fun hg=>am bp I I (aA I hg))<|aO I I (fun hg=>dV (aA I hg) hI)<|zo I (bN (ht I) (fun hb=>(aA I hb)) (fun hb=>(h1t1 hb).2) h0t1)<|aS I<|ay<|ac<|af<|ae<|av rfl<|zo rfl (dI (ht rfl) hI)<|aS rfl<|ay ?_;exact aM (aD (ih t1 (IntKind.i64.wrap (i+(1:Int))) h) (aR I))
  ·refine bc ?_;refine M (M (aC ?_));refine af<|aa ?_
   refine fq (ts:=[_,_,_,_,_,_,_,_,_,_,_,_,_,_,_,_,_,_,_,_,_,_,_,_,_,_,_]) mixed I I
    ⟨im 3 I I I (aU iH dz I I),
    ⟨dQ 49 0 I I I (bf bV I I),
    ⟨im 9 I I I (cw I),
    ⟨dQ 51 2 I I I (cw I),
    ⟨p6 3 52 3 I I I I (dA I I I I (fun hg=>aU oA gr I I)),
    ⟨iL 53 4 52 3 I I I I (dA I I I I (fun hg=>am bp I I (aA I hg))),
    ⟨iL 54 5 52 3 I I I I (dA I I I I (fun hg=>dc (aA I hg) hI)),
    ⟨eF 52 3 55 6 I I I I (fV I I),
    ⟨dQ 56 7 I I I (cw I),
    ⟨p6 3 57 8 I I I I (dA I I I I (fun hg=>aU oA gr I I)),
    ⟨iL 58 9 57 8 I I I I (dA I I I I (fun hg=>am bp I I (aA I hg))),
    ⟨iL 59 10 57 8 I I I I (dA I I I I (fun hg=>dV (aA I hg) hI)),
    ⟨eF 57 8 60 11 I I I I (fV I I),
    ⟨dQ 61 12 I I I (cw I),
    ⟨p6 3 62 13 I I I I (dA I I I I (fun hg=>aU iH dz I I)),
    ⟨iL 63 14 62 13 I I I I (dA I I I I (fun hg=>am bV I I (aA I hg))),
    ⟨iL 64 15 62 13 I I I I (dA I I I I (fun hg=>bw cR (aA I hg))),
    ⟨iL 65 16 62 13 I I I I (dA I I I I (fun hg=>dc (aA I hg) hI)),
    ⟨eF 62 13 66 17 I I I I (fV I I),
    ⟨dQ 67 18 I I I (cw I),
    ⟨p6 3 68 19 I I I I (dA I I I I (fun hg=>aU iH dz I I)),
    ⟨iL 69 20 68 19 I I I I (dA I I I I (fun hg=>am bV I I (aA I hg))),
    ⟨iL 70 21 68 19 I I I I (dA I I I I (fun hg=>bw cR (aA I hg))),
    ⟨iL 71 22 68 19 I I I I (dA I I I I (fun hg=>dV (aA I hg) hI)),
    ⟨eF 68 19 72 23 I I I I (fV I I),
    ⟨dQ 50 1 I I I (Cd I),
    ⟨dQ 73 24 I I I (Cd I),
    aZ⟩⟩⟩⟩⟩⟩⟩⟩⟩⟩⟩⟩⟩⟩⟩⟩⟩⟩⟩⟩⟩⟩⟩⟩⟩⟩⟩ ?_
   refine af<|ah ?_;refine au (J ?_);cases so h;exact bQ I I I
 ·refine aj<|zo I (d6 I)<|aS I<|ai<|bR h I (fun h=>?_) (fun h=>?_)
  ·refine aj<|av I<|av I<|bA h fun l q_l h=>be bp I I I I cR I I (ht I) (ht I) q_l fun l1 c=>av I<|bA h fun out q_out h=>be bp I I I I cR I I (ht I) (ht I) q_out fun l2 c1=>aS I<|ai<|aj<|av I<|zo I (aU o8 gN I I)<|zo I (bf fv I I)<|av I<|db<|ca 80 I<|ca 8 I<|ca 81 I<|ca 84 I<|bA h fun r q_r h=>?_;refine zo I (aG PH (I4 _ _ q_r) ⟨(ht I),(io (ht I)),aZ⟩)<|aS I<|aS I<|ai<|ah ?_;refine au (J ?_);refine fT 6 I<|aX ?_;cases so h;exact bQ I I I
  ·refine aj<|zo I (d6 I)<|aS I<|ai<|bR h I (fun h=>?_) (fun h=>?_)
   ·refine aj<|av I<|zo I (aU o8 gN I I)<|zo I (bf fv I I)<|av I<|bA h fun r1 q_r1 h=>zo I (aG PH (I4 _ _ q_r1) ⟨(ht I),(ht I),aZ⟩)<|aS I<|aS I<|ai<|ah ?_;refine au (J ?_);refine aX ?_;cases so h;exact bQ I I I
   ·refine aj<|zo I (d6 I)<|aS I<|ai<|bR h I (fun h=>?_) (fun h=>?_)
    ·refine aa<|aj<|zo I (dD)<|ai<|ak<|bn ?_;refine aD (oX (Z:=fun n2 out1 l3 c2 i1=>j9 n a1 n2 out1 i1=some R) (Of:=fun out1 l3 c2 i1=>[df cq 3 l3 c2 out1]) (Gf:=fun out1 l3 c2 i1=>[(1,iK a1),(3,ce aJ n),(8,oY l3 c2 out1),(9,fx true),(11,cb i1)]) (fun out1 l3 c2 i1 h=>nn h) (fun n2 ih1 out1 l3 c2 i1 h=>?_) ef sr none 0 (0:Int) h) (aR I);refine aq<|aa<|aj<|av I<|zo I (aU iw dl I I)<|zo I (bf bV I I)<|zo I (d5 cR I)<|zo I (ek I I)<|ai<|bR h I (fun h=>?_) (fun h=>?_)
     ·refine dk<|aa<|ak<|aa<|aj<|zo I (aU iw dl I I)<|zo I (bf bV I I)<|av I<|bA h fun e2 q_e2 h=>zo I (gI cR bp I I I q_e2)<|zo I (bf bp I I)<|zo I (d8 (ht I) hI)<|av I<|bI I I (fun hg=>aU iw dl I I)<|bI I I (fun hg=>am bV I I (aA I hg))<|bI I I (fun hg=>cw I)<|bI I I (fun hg=>eT cR bp I (aA I hg) (aA I hg) q_e2)<|bI I I (fun hg=>am bp I I (aA I hg))<|bI I I (fun hg=>cw I)<|bI I I (fun hg=>bw cR (aA I hg))<|bI I I (fun hg=>dc (aA I hg) (aA I hg))<|zo I (kh I I) ?_;refine ai<|bR h I (fun h=>?_) (fun h=>?_)
      ·refine aj<|zo I (aN (show aK _ _ _ qN from iE))<|zo I (dd)<|ai<|ah ?_;refine J (au (J (J (au (J (au (J ?_)))))));refine aX ?_;cases so h;exact bQ I I I
      ·refine dk<|ae<|av I<|av I<|zo I (aU iw dl I I)<|zo I (bf bV I I)<|av I<|zo I (gI cR bp I I I q_e2)<|zo I (bf bp I I)<|bA h fun e3 q_e3 h=>zo I (gI cR bp I I I q_e3)<|zo I (bf bp I I)<|zo I (aH (r:=cq) (ys:=[e3]) (xs:=[.tmp 126]) cR bp I I I I I ⟨(ht I),aZ⟩)<|bA h fun out2 q_out2 h=>be bp I I I I cR I I (ht I) (ht I) q_out2 fun l4 c3=>aS I<|ay<|ac<|af<|ae<|av rfl<|zo rfl (dI (ht rfl) hI)<|aS rfl ?_;refine ay ?_;exact aM (aD (ih1 out2 l4 c3 (IntKind.i64.wrap (i1+(1:Int))) h) (aR I))
     ·refine bc ?_;refine M (M (aC ?_));refine af<|aa<|aj<|zo rfl (dD)<|ai<|ak<|bn ?_;refine aD (AI (Z:=fun n3 out3 l5 c4 ok1 i2=>j8 n a1 n3 out3 ok1 i2=some R) (Of:=fun out3 l5 c4 ok1 i2=>[df cq 3 l5 c4 out3]) (Gf:=fun out3 l5 c4 ok1 i2=>[(1,iK a1),(3,ce aJ n),(8,oY l5 c4 out3),(9,fx ok1),(12,cb i2)]) (fun out3 l5 c4 ok1 i2 h=>nn h) (fun n3 ih2 out3 l5 c4 ok1 i2 h=>?_) ef out1 l3 c2 true (0:Int) h) (aR I);refine aq<|aa<|aj<|av I<|zo I (aU fM cz I I)<|zo I (bf nd I I)<|zo I (d5 jR I)<|zo I (ek I I)<|ai<|bR h I (fun h=>?_) (fun h=>?_)
      ·refine dk<|aa<|ak<|aj<|zo I (aU fM cz I I)<|zo I (bf nd I I)<|av I<|bA h fun e4 q_e4 h=>zo I (gI jR fE I I I q_e4)<|zo I (bf fE I I)<|av I<|bA h fun r2 q_r2 h=>zo I (aG TE (Oi _ _ q_r2) ⟨(ht I),(ht I),aZ⟩)<|av I<|zo I (nj I I)<|zo I (nj I I)<|aS I<|aS I<|ai<|aj ?_;refine av I<|av I<|zo I (aH (r:=cq) (ys:=[r2.1]) (xs:=[.tmp 147]) cR bp I I I I I ⟨(ht I),aZ⟩)<|bA h fun out4 q_out4 h=>be bp I I I I cR I I (ht I) (ht I) q_out4 fun l6 c5=>aS I<|ai<|ae<|av I<|av I<|aO I I (fun hg=>cw I)<|zo I (fV I I)<|aS I<|ay<|ac<|af<|ae<|av rfl<|zo rfl (dI (ht rfl) hI)<|aS rfl<|ay ?_;exact aM (aD (ih2 out4 l6 c5 (ok1&&r2.2) (IntKind.i64.wrap (i2+(1:Int))) h) (aR I))
      ·refine bc ?_;refine M (M (aC ?_));refine af<|aj<|av rfl<|av rfl<|av rfl<|aO rfl rfl (fun hg=>aU iw dl I I)<|aO I I (fun hg=>am bV I I (aA I hg))<|aO I I (fun hg=>bw cR (aA I hg))<|aO I I (fun hg=>dV (aA I hg) hI)<|zo I (fV I I)<|av I<|aO I I (fun hg=>aU fM cz I I)<|aO I I (fun hg=>am nd I I (aA I hg))<|aO I I (fun hg=>bw jR (aA I hg))<|aO I I (fun hg=>dV (aA I hg) hI)<|zo I (fV I I)<|av I<|aO I I (fun hg=>cw I)<|aO I I (fun hg=>hY cR (.head _) (aA I hg))<|aO I I (fun hg=>cH (aA I hg) hI)<|zo I (fV I I)<|aS I<|aS I ?_;refine ai<|ah ?_;refine au (J ?_);refine ea<|bS 8 I<|bS 154 I<|bS 6 I<|fT 6 I<|aX ?_;cases so h;exact bQ I I I
    ·refine aj<|zo I (d6 I)<|aS I<|ai<|bR h I (fun h=>?_) (fun h=>?_)
     ·refine aa<|aj<|zo I (dD)<|ai<|ak<|bn ?_;refine aD (AI (Z:=fun n4 out5 l7 c6 ok2 i3=>j7 n a1 n4 out5 ok2 i3=some R) (Of:=fun out5 l7 c6 ok2 i3=>[df cq 3 l7 c6 out5]) (Gf:=fun out5 l7 c6 ok2 i3=>[(1,iK a1),(3,ce aJ n),(8,oY l7 c6 out5),(9,fx ok2),(15,cb i3)]) (fun out5 l7 c6 ok2 i3 h=>nn h) (fun n4 ih3 out5 l7 c6 ok2 i3 h=>?_) ef sr none 0 true (0:Int) h) (aR I);refine aq<|aa<|aj<|av I<|zo I (aU m2 gq I I)<|zo I (bf u4 I I)<|zo I (d5 pr I)<|zo I (ek I I)<|ai<|bR h I (fun h=>?_) (fun h=>?_)
      ·refine dk<|aa<|ak<|aj<|zo I (aU m2 gq I I)<|zo I (bf u4 I I)<|av I<|bA h fun e5 q_e5 h=>zo I (gI pr fv I I I q_e5)<|zo I (bf fv I I)<|av I<|bA h fun r3 q_r3 h=>zo I (aG Mz (Eu _ _ q_r3) ⟨(ht I),(ht I),aZ⟩)<|av I<|zo I (nj I I)<|zo I (nj I I)<|aS I<|aS I<|ai<|aj ?_;refine av I<|av I<|zo I (aH (r:=cq) (ys:=[r3.1]) (xs:=[.tmp 193]) cR bp I I I I I ⟨(ht I),aZ⟩)<|bA h fun out6 q_out6 h=>be bp I I I I cR I I (ht I) (ht I) q_out6 fun l8 c7=>aS I<|ai<|ae<|av I<|av I<|aO I I (fun hg=>cw I)<|aO I I (fun hg=>bz (aA I hg) hI)<|zo I (fV I I)<|aS I<|ay<|ac<|af<|ae<|av rfl<|zo rfl (dI (ht rfl) hI)<|aS rfl<|ay ?_;exact aM (aD (ih3 out6 l8 c7 (ok2&&(r3.2==(0:Int))) (IntKind.i64.wrap (i3+(1:Int))) h) (aR I))
      ·refine bc ?_;refine M (M (aC ?_));refine af<|aj<|av rfl<|av rfl<|av rfl<|aO rfl rfl (fun hg=>cw I)<|aO I I (fun hg=>hY cR (.head _) (aA I hg))<|aO I I (fun hg=>dc (aA I hg) hI)<|zo I (fV I I)<|av I<|aO I I (fun hg=>cw I)<|aO I I (fun hg=>hY cR (.head _) (aA I hg))<|aO I I (fun hg=>dV (aA I hg) hI)<|zo I (fV I I)<|aS I<|aS I<|ai<|ah ?_;refine au (J ?_);refine ea<|bS 8 I<|bS 201 I<|bS 6 I<|fT 6 I<|aX ?_;cases so h;exact bQ I I I
     ·refine aj<|zo I (d6 I)<|aS I<|ai<|bR h I (fun h=>?_) (fun h=>?_)
      ·refine aj<|av I<|aS I<|zo I (dd)<|ai<|ah ?_;refine au (J ?_);refine aX ?_;cases so h;exact bQ I I I
      ·refine aj<|zo I (d6 I)<|aS I<|ai<|bR h I (fun h=>?_) (fun h=>?_)
       ·refine aa<|aj<|av I<|zo I (d5 cR I)<|av I<|zo I (d5 cR I)<|zo I (bM (ht I) (ht I))<|ai<|bR h I (fun h=>?_) (fun h=>?_)
        ·refine aj<|zo I (aN (show aK _ _ _ qN from iE))<|zo I (dd)<|ai<|ah ?_;refine J (au (J ?_));refine aX ?_;cases so h;exact bQ I I I
        ·refine dk<|aa<|aj<|zo I (dD)<|ai<|ak<|aT (k:=1) I fun hN=>bn ?_;refine aD (wc (Z:=fun ls i4 out7 l9 c8 ok3=>(a1.drop i4=ls)∧hE b ls i4 out7 ok3=some R) (Of:=fun _ i4 out7 l9 c8 ok3=>[df cq 3 l9 c8 out7]) (Gf:=fun _ i4 out7 l9 c8 ok3=>[(1,iK a1),(2,iK b),(8,oY l9 c8 out7),(9,fx ok3),(18,cb (i4:Int))]) (fun i4 out7 l9 c8 ok3 h=>?_) (fun e6 tl ih4 i4 out7 l9 c8 ok3 h=>?_) a1 0 sr none 0 true ⟨I,h⟩) (aR I)
         ·obtain⟨hx,h⟩:=h
          refine aq<|aa<|aj<|av I<|av I<|zo I (d5 cR I)<|zo I (ek I I)<|ai<|bu (ht I) (de hx)<|bc ?_;refine M (M (aC ?_));refine af<|aj<|av rfl<|av rfl<|aS rfl<|aS rfl<|ai<|ah ?_;refine au (J ?_);refine ea<|bS 8 I<|bS 259 I<|bS 6 I<|fT 6 I<|aX ?_;cases so h;exact bQ I I I
         ·obtain⟨hx,h⟩:=h
          refine aq<|aa<|aj<|av I<|av I<|zo I (d5 cR I)<|zo I (ek I I)<|ai<|bt (ht I) (cX hx)<|dk<|aa<|ak<|aj<|av I<|av I<|zo I (gI cR bp I I I (cS hx))<|zo I (bf bp I I)<|aS I<|ai ?_;refine dj (Z:=fun k=>nA b (hE b tl) i4 out7 ok3 k=some R) (Of:=fun k=>[df cq 3 l9 c8 out7]) (Gf:=fun k=>[(1,iK a1),(2,iK b),(8,oY l9 c8 out7),(9,fx ok3),(18,cb (i4:Int)),(19,cb k)]) (fun k h=>?_) (fun K=>?_)
          ·skip
           refine aj<|av I<|av I<|zo I (aH (r:=cq) (ys:=[k]) (xs:=[.tmp 240]) cR bp I I I I I ⟨(ht I),aZ⟩)<|bA h fun out8 q_out8 h=>be bp I I I I cR I I (ht I) (ht I) q_out8 fun l10 c9=>aS I<|ai<|ae<|av I<|av I<|bA h fun t2 q_t2 h=>aO I I (fun hg=>cw I)<|aO I I (fun hg=>cw I) ?_
           obtain⟨e7,h1t2,h0t2⟩:=og q_t2
           have q_e7g:=fun hb=>(h1t2 hb).1
           refine aO I I (fun hg=>eT cR bp I (aA I hg) (aA I hg) (q_e7g hg))<|aO I I (fun hg=>am bp I I (aA I hg))<|aO I I (fun hg=>cw I)<|aO I I (fun hg=>bz (aA I hg) (aA I hg))<|aO I I (fun hg=>bm (aA I hg)) ?_
           obtain⟨t3,h1t2⟩:=UI (fun hb=>(h1t2 hb).2)
           have q_t3g:=fun hb=>(h1t2 hb).1
           refine ck I I I I (fun hg=>cw I)<|ck I I I I (fun hg=>cw I) ?_
           obtain⟨e8,h1t3,h0t3⟩:=og3 q_t3g
           have q_e8g:=fun hb=>(h1t3 hb).1
           refine ck I I I I (fun hg=>eT cR bp I (aA I hg) (aA I hg) (q_e8g hg))<|ck I I I I (fun hg=>am bp I I (aA I hg))<|ck I I I I (fun hg=>bz (aA I hg) hI)<|aO I I (fun hg=>fF (aA I hg) (fun hb=>(aA I (pT hg (oH hb)))) (fun hb=>(h1t3 (pT hg hb)).2) (fun hb=>h0t3 hg hb))<|zo I (bN (ht I) (fun hb=>(aA I hb)) (fun hb=>(h1t2 hb).2) h0t2)<|aS I<|ay<|ac<|af<|ae<|av rfl<|zo rfl (jL (cy hx hN) rfl)<|aS rfl<|ay ?_;exact aM (aD (ih4 (i4+1) out8 l10 c9 t2 ⟨cx hx,h⟩) (aR I))
          ·skip
           refine aj<|av I<|zo I (d6 I)<|ai<|bR h I (fun h=>?_) (fun h=>?_)
           ·refine ae<|av I<|av I<|bA h fun e9 q_e9 h=>zo I (gI cR bp I I I q_e9)<|zo I (bf bp I I)<|aS I<|ay ?_;exact bD (K e9 h) (aR I)
           ·refine aP ?_;exact bD (K e6 h) (aR I)
       ·refine aP<|ac<|af<|aa<|aj<|zo rfl (dD)<|ai<|ak<|bn<|jv ?_;refine aD (wN (Z:=fun n5 ok4 i5=>hD n a1 n5 ok4 i5=some R) (Of:=fun ok4 i5=>[]) (Gf:=fun ok4 i5=>[(1,iK a1),(3,ce aJ n),(9,fx ok4),(20,cb i5)]) (fun ok4 i5 h=>nn h) (fun n5 ih5 ok4 i5 h=>?_) ef true (0:Int) h) (aR I);refine aq<|aa<|aj<|av I<|zo I (aU iA dR I I)<|zo I (bf sv I I)<|zo I (d5 pR I)<|zo I (ek I I)<|ai<|bR h I (fun h=>?_) (fun h=>?_)
        ·refine dk<|aa<|ak<|ae<|av I<|av I<|bA h fun t4 q_t4 h=>aO I I (fun hg=>aU iA dR I I)<|aO I I (fun hg=>am sv I I (aA I hg))<|aO I I (fun hg=>cw I) ?_
         obtain⟨e10,h1t4,h0t4⟩:=og q_t4
         have q_e10g:=fun hb=>(h1t4 hb).1
         refine aO I I (fun hg=>eT pR pU I (aA I hg) (aA I hg) (q_e10g hg))<|aO I I (fun hg=>cK wC I sh I (aA I hg))<|aO I I (fun hg=>am bp I I (aA I hg))<|aO I I (fun hg=>dc (aA I hg) hI)<|zo I (bN (ht I) (fun hb=>(aA I hb)) (fun hb=>(h1t4 hb).2) h0t4)<|av I<|bA h fun t5 q_t5 h=>aO I I (fun hg=>aU iA dR I I)<|aO I I (fun hg=>am sv I I (aA I hg))<|aO I I (fun hg=>cw I) ?_
         obtain⟨e11,h1t5,h0t5⟩:=og q_t5
         have q_e11g:=fun hb=>(h1t5 hb).1
         refine aO I I (fun hg=>eT pR pU I (aA I hg) (aA I hg) (q_e11g hg))<|aO I I (fun hg=>cK wC I sh I (aA I hg))<|aO I I (fun hg=>am bp I I (aA I hg))<|aO I I (fun hg=>cw I)<|aO I I (fun hg=>bw cR (aA I hg))<|aO I I (fun hg=>d8 (aA I hg) (aA I hg))<|zo I (bN (ht I) (fun hb=>(aA I hb)) (fun hb=>(h1t5 hb).2) h0t5)<|aS I<|ay<|ac<|af<|ae<|av rfl<|zo rfl (dI (ht rfl) hI)<|aS rfl<|ay ?_;exact aM (aD (ih5 t5 (IntKind.i64.wrap (i5+(1:Int))) h) (aR I))
        ·refine bc ?_;refine M (M (aC ?_));refine af<|aa ?_
         refine fq (ts:=[_,_,_,_,_,_,_,_,_,_,_,_,_,_,_,_,_,_,_,_]) mixed I I
          ⟨im 1 I I I (cw I),
          ⟨im 9 I I I (cw I),
          ⟨dQ 290 1 I I I (cw I),
          ⟨p6 3 291 2 I I I I (dA I I I I (fun hg=>aU iA dR I I)),
          ⟨iL 292 3 291 2 I I I I (dA I I I I (fun hg=>am sv I I (aA I hg))),
          ⟨iL 293 4 291 2 I I I I (dA I I I I (fun hg=>bw pR (aA I hg))),
          ⟨iL 294 5 291 2 I I I I (dA I I I I (fun hg=>dV (aA I hg) hI)),
          ⟨eF 291 2 295 6 I I I I (fV I I),
          ⟨dQ 296 7 I I I (cw I),
          ⟨p6 3 297 8 I I I I (dA I I I I (fun hg=>aU oS iu I I)),
          ⟨iL 298 9 297 8 I I I I (dA I I I I (fun hg=>am bp I I (aA I hg))),
          ⟨iL 299 10 297 8 I I I I (dA I I I I (fun hg=>dc (aA I hg) hI)),
          ⟨eF 297 8 300 11 I I I I (fV I I),
          ⟨dQ 301 12 I I I (cw I),
          ⟨p6 3 302 13 I I I I (dA I I I I (fun hg=>aU oS iu I I)),
          ⟨iL 303 14 302 13 I I I I (dA I I I I (fun hg=>am bp I I (aA I hg))),
          ⟨iL 304 15 302 13 I I I I (dA I I I I (fun hg=>dV (aA I hg) hI)),
          ⟨eF 302 13 305 16 I I I I (fV I I),
          ⟨dQ 289 0 I I I (Cd I),
          ⟨dQ 306 17 I I I (Cd I),
          aZ⟩⟩⟩⟩⟩⟩⟩⟩⟩⟩⟩⟩⟩⟩⟩⟩⟩⟩⟩⟩ ?_
         refine af<|ah ?_;cases so h;exact bQ I I I

theorem Mr: ∀(fu:Nat) (l:dh) (at1:Int) {R:(List Int)×Bool} (h:fz fu l at1=some R),bk ba 135 [tD j5 l,cb at1] (tT [iK R.1,fx R.2]):=by
 intro fu
 induction fu with
 |zero=>intro l at1 R h;exact(nn h).elim
 |succ fu ih=>
  intro l at1 R h
  refine bk.of Tryz.func135 I I I fun w0 S0=>aj<|zo I (kp I)<|zo I (aN (show aK _ _ _ qN from iE))<|zo I (dd)<|ai<|aa<|aj<|zo I (bf Cp I I)<|av I<|bA h fun r q_r h=>zo I (aG Je (Oy _ _ q_r) ⟨(ht I),(ht I),aZ⟩)<|zo I (d6 I)<|av I<|bA h fun t q_t h=>bI I I (fun hg=>aU m1 lg I I)<|bI I I (fun hg=>am ox I I (aA I hg))<|bI I I (fun hg=>cw I) ?_
  obtain⟨e,h1t,h0t⟩:=og q_t
  have q_eg:=fun hb=>(h1t hb).1
  refine bI I I (fun hg=>eT ji ej I (aA I hg) (aA I hg) (q_eg hg))<|bI I I (fun hg=>am ej I I (aA I hg)) ?_
  obtain⟨r1,h1t⟩:=UI (fun hb=>(h1t hb).2)
  have q_r1g:=fun hb=>(h1t hb).1
  refine bI I I (fun hg=>aG Jf (AF _ (q_r1g hg)) ⟨(aA I hg),aZ⟩)<|bI I I (fun hg=>dP (aA I hg))<|zo I (fF (ht I) (fun hb=>(aA I (oH hb))) (fun hb=>(h1t hb).2) h0t)<|ai<|bR h I (fun h=>?_) (fun h=>?_)
  ·refine aj<|zo I (aN (show aK _ _ _ qN from iE))<|zo I (dd)<|ai<|ah<|J ?_;cases so h;exact bQ I I I
  ·refine dk<|aj<|zo I (aU m1 lg I I)<|zo I (bf ox I I)<|av I<|bA h fun e1 q_e1 h=>zo I (gI ji ej I I I q_e1)<|zo I (bf ej I I)<|bJ (r:=aJ) (x:=DK) ej (fun _=>iX _) I fun b=>aQ ej I aY I (ht I) (ht I)<|bE 6 I<|ai<|aj<|zo I (aN (show aK _ _ _ qN from iE))<|zo I (aN (show aK _ _ _ qN from iE))<|ai ?_;refine dj (Z:=fun a1=>ka (fz fu) l at1 e1 a1=some R) (Of:=fun a1=>[]) (Gf:=fun a1=>[(1,cb at1),(2,ce j5 l),(6,ce aJ e1),(7,iK a1),(8,iK ([]))]) (fun a1 h=>?_) (fun K=>?_)
   ·skip
    refine dj (Z:=fun b1=>i0 l at1 e1 a1 b1=some R) (Of:=fun b1=>[]) (Gf:=fun b1=>[(1,cb at1),(2,ce j5 l),(6,ce aJ e1),(7,iK a1),(8,iK b1)]) (fun b1 h=>?_) (fun K1=>?_)
    ·skip
     refine aj<|zo I (bf ej I I)<|av I<|av I<|bA h fun r2 q_r2 h=>zo I (aG TR (Ox _ _ _ q_r2) ⟨(ht I),(ht I),(ht I),aZ⟩)<|av I<|zo I (nj I I)<|zo I (nj I I)<|aS I<|aS I<|ai<|aa<|aj<|zo I (aU eJ cg I I)<|zo I (bf bp I I)<|zo I (d6 I)<|av I<|aO I I (fun hg=>cw I)<|aO I I (fun hg=>aU m1 lg I I)<|aO I I (fun hg=>am ox I I (aA I hg)) ?_;refine aO I I (fun hg=>bw ji (aA I hg))<|aO I I (fun hg=>dG (aA I hg) hI)<|aO I I (fun hg=>bM (aA I hg) (aA I hg))<|zo I (fV I I)<|av I<|bI I I (fun hg=>cw I)<|bI I I (fun hg=>bw cR (aA I hg))<|bI I I (fun hg=>cH (aA I hg) hI)<|zo I (kh I I)<|ai<|bR h I (fun h=>?_) (fun h=>?_)
     ·refine aj<|zo I (aN (show aK _ _ _ qN from iE))<|zo I (dd)<|ai<|ah<|J ?_;cases so h;exact bQ I I I
     ·refine dk<|aj<|av I<|av I<|aS I<|aS I<|ai<|ah ?_;cases so h;exact bQ I I I
    ·skip
     refine aj<|zo I (aU m3 f7 I I)<|zo I (bf bp I I)<|zo I (dc (ht I) hI)<|ai<|bR h I (fun h=>?_) (fun h=>?_)
     ·refine aj<|zo I (bf Cp I I)<|zo I (aU m3 f7 I I)<|zo I (bf bp I I)<|bA h fun r3 q_r3 h=>zo I (aG ME (ih _ _ q_r3) ⟨(ht I),(ht I),aZ⟩)<|av I<|zo I (nj I I)<|zo I (nj I I)<|aS I<|aS I<|ai<|aa<|aj<|av I<|zo I (dP (ht I))<|ai<|bR h I (fun h=>?_) (fun h=>?_)
      ·refine aj<|zo I (aN (show aK _ _ _ qN from iE))<|zo I (dd)<|ai<|ah ?_;refine J (J ?_);cases so h;exact bQ I I I
      ·refine dk<|ae<|av I<|aS I<|ay ?_;exact bD (K1 r3.1 h) (aR I)
     ·refine aP ?_;exact bD (K1 ([]) h) (aR I)
   ·skip
    refine aj<|zo I (aU lh eW I I)<|zo I (bf bp I I)<|zo I (dc (ht I) hI)<|ai<|bR h I (fun h=>?_) (fun h=>?_)
    ·refine aj<|zo I (bf Cp I I)<|zo I (aU lh eW I I)<|zo I (bf bp I I)<|bA h fun r4 q_r4 h=>zo I (aG ME (ih _ _ q_r4) ⟨(ht I),(ht I),aZ⟩)<|av I<|zo I (nj I I)<|zo I (nj I I)<|aS I<|aS I<|ai<|aa<|aj<|av I<|zo I (dP (ht I))<|ai<|bR h I (fun h=>?_) (fun h=>?_)
     ·refine aj<|zo I (aN (show aK _ _ _ qN from iE))<|zo I (dd)<|ai<|ah ?_;refine J (J ?_);cases so h;exact bQ I I I
     ·refine dk<|ae<|av I<|aS I<|ay ?_;exact bD (K r4.1 h) (aR I)
    ·refine aP ?_;exact bD (K ([]) h) (aR I)
theorem OL(l:dh)(at1:Int){R:(List Int)×Bool}(h:lR l at1=some R):bk ba 135 [tD j5 l,cb at1] (tT [iK R.1,fx R.2]):=Mr ef l at1 h

end Go.Proofs.YtdohlidddcgfjaaGreat

