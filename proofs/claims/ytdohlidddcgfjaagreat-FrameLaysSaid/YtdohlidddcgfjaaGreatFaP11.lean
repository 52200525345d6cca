/- cT of this claim: P11. -/
import Derived.Test.YtdohlidddcgfjaaGreatFaT
import Derived.Test.YtdohlidddcgfjaaGreatFaP10
set_option linter.all false
namespace Go.Proofs.YtdohlidddcgfjaaGreat
open Go
set_option maxRecDepth 100000

theorem Ms(m:cu){R:Bool}(h:qj m=some R):bk ba 11 [tD dN m] (fx R):=by
 refine bk.of Tryz.func11 I I I fun w0 S0=>aj<|zo I (kp I)<|zo I (dd)<|ai<|aj<|zo I (aU rf oI I I)<|zo I (bf y0 I I)<|bA h fun r q_r h=>zo I (aG VP (Rl _ q_r) ⟨(ht I),aZ⟩)<|av I<|bA h fun t q_t h=>bI I I (fun hg=>aU pI mt I I)<|bI I I (fun hg=>cK iI I cU I (aA I hg))<|bI I I (fun hg=>cK pL I ic I (aA I hg))<|bI I I (fun hg=>am xW I I (aA I hg)) ?_
 obtain⟨r1,h1t,h0t⟩:=og q_t
 have q_r1g:=fun hb=>(h1t hb).1
 refine bI I I (fun hg=>aG VJ (Rf _ (q_r1g hg)) ⟨(aA I hg),aZ⟩)<|zo I (fF (ht I) (fun hb=>(aA I (oH hb))) (fun hb=>(h1t hb).2) h0t)<|aS I<|ai<|ah ?_;cases so h;exact aw I I

theorem RA(m:cu){R:Int}(h:vT m=some R):bk ba 13 [tD dN m] (cb R):=by
 refine bk.of Tryz.func13 I I I fun w0 S0=>aj<|zo I (kp I)<|zo I (dD)<|ai<|aj<|zo I (bf lk I I)<|bA h fun r q_r h=>zo I (aG RS (H1 _ q_r) ⟨(ht I),aZ⟩)<|av I<|zo I (nj I I)<|zo I (nj I I)<|aS I<|aS I<|ai<|aj<|av I<|aS I<|ay ?_;refine af<|ah ?_;cases so h;exact aw I I

theorem H0(a1:(List Int))(b:(List Int)){R:Bool}(h:ly a1 b=some R):bk ba 48 [iK a1,iK b] (fx R):=by
 refine bk.of Tryz.func48 I I I fun w0 S0=>aj<|zo I (dd)<|ai<|aa<|aj<|av I<|zo I (d5 cR I)<|av I<|zo I (d5 cR I)<|zo I (bM (ht I) (ht I))<|ai<|bR h I (fun h=>?_) (fun h=>?_)
 ·refine aj<|zo I (dd)<|ai<|ah<|J ?_;cases so h;exact aw I I
 ·refine dk<|aa<|aj<|zo I (dD)<|ai<|ak<|aT (k:=0) I fun hN=>bn ?_;refine aD (dv (Z:=fun ls i=>(a1.drop i=ls)∧m5 b ls i=some R) (Of:=fun _ i=>[]) (Gf:=fun _ i=>[(0,iK a1),(1,iK b),(5,cb (i:Int))]) (fun i h=>?_) (fun e tl ih i h=>?_) a1 0 ⟨I,h⟩) (aR I)
  ·obtain⟨hx,h⟩:=h
   refine aq<|aa<|aj<|av I<|av I<|zo I (d5 cR I)<|zo I (ek I I)<|ai<|bu (ht I) (de hx)<|bc ?_;refine M (M (aC ?_));refine af<|aj<|zo rfl (dd)<|ai<|ah ?_;cases so h;exact aw I I
  ·obtain⟨hx,h⟩:=h
   refine aq<|aa<|aj<|av I<|av I<|zo I (d5 cR I)<|zo I (ek I I)<|ai<|bt (ht I) (cX hx)<|dk<|aa<|ak<|aa<|bA h fun e1 q_e1 h=>?_
   refine fq (ts:=[_,_,_,_,_,_,_,_,_]) mixed I I
    ⟨im 0 I I I (cw I),
    ⟨im 5 I I I (cw I),
    ⟨eF 17 0 18 1 I I I I (gI cR bp I I I (cS hx)),
    ⟨dQ 19 2 I I I (bf bp I I),
    ⟨im 1 I I I (cw I),
    ⟨im 5 I I I (cw I),
    ⟨eF 21 4 22 5 I I I I (gI cR bp I I I q_e1),
    ⟨dQ 23 6 I I I (bf bp I I),
    ⟨eF 20 3 24 7 I I I I (bM (ht I) (ht I)),
    aZ⟩⟩⟩⟩⟩⟩⟩⟩⟩ ?_
   refine af<|bR h rfl (fun h=>?_) (fun h=>?_)
   ·refine aj<|zo I (dd)<|ai<|ah ?_;refine au (J (J (au (J ?_))));cases so h;exact aw I I
   ·refine aP<|ac<|af<|ae<|av rfl<|zo rfl (jL (cy hx hN) rfl)<|aS rfl<|ay ?_;exact aM (aD (ih (i+1) ⟨cx hx,h⟩) (aR I))

theorem Ew(a1:bv)(b:bv){R:Bool}(h:qb a1 b=some R):bk ba 142 [tD bL a1,tD bL b] (fx R):=by
 refine bk.of Tryz.func142 I I I fun w0 S0=>aj<|zo I (kp I)<|zo I (kp I)<|zo I (dd)<|ai<|aa<|aj<|zo I (aU fd di I I)<|zo I (bf lN I I)<|zo I (d5 jh I)<|zo I (aU fd di I I)<|zo I (bf lN I I)<|zo I (d5 jh I)<|zo I (bM (ht I) (ht I))<|ai<|bR h I (fun h=>?_) (fun h=>?_)
 ·refine aj<|zo I (dd)<|ai<|ah<|J ?_;cases so h;exact aw I I
 ·refine dk<|aa<|aj<|zo I (aU fd di I I)<|zo I (bf lN I I)<|zo I (d5 jh I)<|zo I (bm hI)<|ai<|ak<|aT (k:=14) I fun hN=>bn ?_;refine aD (dv (Z:=fun ls i=>(a1.Nodes.drop i=ls)∧oD b ls i=some R) (Of:=fun _ i=>[]) (Gf:=fun _ i=>[(2,ce bL a1),(3,ce bL b),(15,iB a1.Nodes),(16,cb (i:Int))]) (fun i h=>?_) (fun e tl ih i h=>?_) a1.Nodes 0 ⟨I,h⟩) (aR I)
  ·obtain⟨hx,h⟩:=h
   refine aq<|aj<|zo I (ek I I)<|ai<|aa<|bu (ht I) (de hx)<|bc ?_;refine M (M (aC ?_));refine af<|aj<|zo rfl (dd)<|ai<|ah ?_;cases so h;exact aw I I
  ·obtain⟨hx,h⟩:=h
   refine aq<|aj<|zo I (ek I I)<|ai<|aa<|bt (ht I) (cX hx)<|dk<|aa<|ak<|aj<|av I<|aS I<|ai<|aa<|bA h fun e1 q_e1 h=>?_
   refine fq (ts:=[_,_,_,_,_,_,_,_,_,_,_]) mixed I I
    ⟨im 2 I I I (aU fd di I I),
    ⟨dQ 19 0 I I I (bf lN I I),
    ⟨im 5 I I I (cw I),
    ⟨eF 20 1 21 2 I I I I (gI jh eb I I I (cS hx)),
    ⟨dQ 22 3 I I I (bf eb I I),
    ⟨im 3 I I I (aU fd di I I),
    ⟨dQ 24 5 I I I (bf lN I I),
    ⟨im 5 I I I (cw I),
    ⟨eF 25 6 26 7 I I I I (gI jh eb I I I q_e1),
    ⟨dQ 27 8 I I I (bf eb I I),
    ⟨eF 23 4 28 9 I I I I (rz PD (ht I) (ht I)),
    aZ⟩⟩⟩⟩⟩⟩⟩⟩⟩⟩⟩ ?_
   refine af<|bR h rfl (fun h=>?_) (fun h=>?_)
   ·refine aj<|zo I (dd)<|ai<|ah ?_;refine au (J (J (au (J ?_))));cases so h;exact aw I I
   ·refine aP<|ac<|af<|ae<|zo rfl (jL (cy hx hN) rfl)<|av rfl<|ay ?_;exact aM (aD (ih (i+1) ⟨cx hx,h⟩) (aR I))

theorem OK(a1:(List bv))(b:(List bv)){R:Bool}(h:qB a1 b=some R):bk ba 143 [dM (bL) a1,dM (bL) b] (fx R):=by
 refine bk.of Tryz.func143 I I I fun w0 S0=>aj<|zo I (dd)<|ai<|aa<|aj<|av I<|zo I (d5 pr I)<|av I<|zo I (d5 pr I)<|zo I (bM (ht I) (ht I))<|ai<|bR h I (fun h=>?_) (fun h=>?_)
 ·refine aj<|zo I (dd)<|ai<|ah<|J ?_;cases so h;exact aw I I
 ·refine dk<|aa<|aj<|av I<|zo I (d5 pr I)<|zo I (bm hI)<|ai<|ak<|aT (k:=11) I fun hN=>bn ?_;refine aD (dv (Z:=fun ls i=>(a1.drop i=ls)∧n9 b ls i=some R) (Of:=fun _ i=>[]) (Gf:=fun _ i=>[(0,dM (bL) a1),(1,dM (bL) b),(12,iB a1),(13,cb (i:Int))]) (fun i h=>?_) (fun e tl ih i h=>?_) a1 0 ⟨I,h⟩) (aR I)
  ·obtain⟨hx,h⟩:=h
   refine aq<|aj<|zo I (ek I I)<|ai<|aa<|bu (ht I) (de hx)<|bc ?_;refine M (M (aC ?_));refine af<|aj<|zo rfl (dd)<|ai<|ah ?_;cases so h;exact aw I I
  ·obtain⟨hx,h⟩:=h
   refine aq<|aj<|zo I (ek I I)<|ai<|aa<|bt (ht I) (cX hx)<|dk<|aa<|ak<|aj<|av I<|aS I<|ai<|aa<|bA h fun e1 q_e1 h=>bA h fun r q_r h=>?_
   refine fq (ts:=[_,_,_,_,_,_,_,_,_,_]) mixed I I
    ⟨im 0 I I I (cw I),
    ⟨im 5 I I I (cw I),
    ⟨eF 16 0 17 1 I I I I (gI pr fv I I I (cS hx)),
    ⟨dQ 18 2 I I I (bf fv I I),
    ⟨im 1 I I I (cw I),
    ⟨im 5 I I I (cw I),
    ⟨eF 20 4 21 5 I I I I (gI pr fv I I I q_e1),
    ⟨dQ 22 6 I I I (bf fv I I),
    ⟨eF 19 3 23 7 I I I I (aG MD (Ew _ _ q_r) ⟨(ht I),(ht I),aZ⟩),
    ⟨dQ 24 8 I I I (dP (ht I)),
    aZ⟩⟩⟩⟩⟩⟩⟩⟩⟩⟩ ?_
   refine af<|bR h rfl (fun h=>?_) (fun h=>?_)
   ·refine aj<|zo I (dd)<|ai<|ah ?_;refine au (J (J (au (J ?_))));cases so h;exact aw I I
   ·refine aP<|ac<|af<|ae<|zo rfl (jL (cy hx hN) rfl)<|av rfl<|ay ?_;exact aM (aD (ih (i+1) ⟨cx hx,h⟩) (aR I))

theorem O3(a1:ap)(b:ap){R:Bool}(h:pA a1 b=some R):bk ba 104 [tD aJ a1,tD aJ b] (fx R):=by
 refine bk.of Tryz.func104 I I I fun w0 S0=>aj<|zo I (kp I)<|zo I (kp I)<|zo I (dd)<|ai<|aa<|aj<|zo I (aU eJ cg I I)<|zo I (bf bp I I)<|zo I (aU eJ cg I I)<|zo I (bf bp I I)<|zo I (bM (ht I) (ht I))<|av I<|bI I I (fun hg=>aU lh eW I I)<|bI I I (fun hg=>am bp I I (aA I hg))<|bI I I (fun hg=>aU lh eW I I)<|bI I I (fun hg=>am bp I I (aA I hg))<|bI I I (fun hg=>bM (aA I hg) (aA I hg))<|zo I (kh I I)<|av I ?_;refine bI I I (fun hg=>aU m3 f7 I I)<|bI I I (fun hg=>am bp I I (aA I hg))<|bI I I (fun hg=>aU m3 f7 I I)<|bI I I (fun hg=>am bp I I (aA I hg))<|bI I I (fun hg=>bM (aA I hg) (aA I hg))<|zo I (kh I I)<|av I<|bI I I (fun hg=>aU oA gr I I)<|bI I I (fun hg=>am bp I I (aA I hg))<|bI I I (fun hg=>aU oA gr I I)<|bI I I (fun hg=>am bp I I (aA I hg))<|bI I I (fun hg=>bM (aA I hg) (aA I hg))<|zo I (kh I I)<|av I<|bI I I (fun hg=>aU vW nQ I I)<|bI I I (fun hg=>am As I I (aA I hg))<|bI I I (fun hg=>aU vW nQ I I)<|bI I I (fun hg=>am As I I (aA I hg))<|bI I I (fun hg=>Ee DF (aA I hg) (aA I hg))<|zo I (kh I I)<|av I<|bI I I (fun hg=>aU oS iu I I)<|bI I I (fun hg=>am bp I I (aA I hg))<|bI I I (fun hg=>aU oS iu I I) ?_;refine bI I I (fun hg=>am bp I I (aA I hg))<|bI I I (fun hg=>bM (aA I hg) (aA I hg))<|zo I (kh I I)<|ai<|bR h I (fun h=>?_) (fun h=>?_)
 ·refine aj<|zo I (dd)<|ai<|ah<|J ?_;cases so h;exact aw I I
 ·refine dk<|aa<|aj<|zo I (aU fM cz I I)<|zo I (bf nd I I)<|zo I (d5 jR I)<|zo I (aU fM cz I I)<|zo I (bf nd I I)<|zo I (d5 jR I)<|zo I (bM (ht I) (ht I))<|av I<|bI I I (fun hg=>aU iA dR I I)<|bI I I (fun hg=>am sv I I (aA I hg))<|bI I I (fun hg=>bw pR (aA I hg))<|bI I I (fun hg=>aU iA dR I I)<|bI I I (fun hg=>am sv I I (aA I hg))<|bI I I (fun hg=>bw pR (aA I hg))<|bI I I (fun hg=>bM (aA I hg) (aA I hg))<|zo I (kh I I)<|av I<|bA h fun t q_t h=>bI I I (fun hg=>aU iH dz I I) ?_;refine bI I I (fun hg=>am bV I I (aA I hg))<|bI I I (fun hg=>aU iH dz I I)<|bI I I (fun hg=>am bV I I (aA I hg)) ?_
  obtain⟨r,h1t,h0t⟩:=og q_t
  have q_rg:=fun hb=>(h1t hb).1
  refine bI I I (fun hg=>aG RQ (H0 _ _ (q_rg hg)) ⟨(aA I hg),(aA I hg),aZ⟩)<|bI I I (fun hg=>dP (aA I hg))<|zo I (fF (ht I) (fun hb=>(aA I (oH hb))) (fun hb=>(h1t hb).2) h0t)<|av I<|bA h fun t1 q_t1 h=>bI I I (fun hg=>aU iw dl I I)<|bI I I (fun hg=>am bV I I (aA I hg))<|bI I I (fun hg=>aU iw dl I I)<|bI I I (fun hg=>am bV I I (aA I hg)) ?_
  obtain⟨r1,h1t1,h0t1⟩:=og q_t1
  have q_r1g:=fun hb=>(h1t1 hb).1
  refine bI I I (fun hg=>aG RQ (H0 _ _ (q_r1g hg)) ⟨(aA I hg),(aA I hg),aZ⟩)<|bI I I (fun hg=>dP (aA I hg))<|zo I (fF (ht I) (fun hb=>(aA I (oH hb))) (fun hb=>(h1t1 hb).2) h0t1)<|ai<|bR h I (fun h=>?_) (fun h=>?_)
  ·refine aj<|zo I (dd)<|ai<|ah<|J ?_;cases so h;exact aw I I
  ·refine dk<|aa<|aj<|zo I (dD)<|ai<|ak<|bn ?_;refine aD (wO (Z:=fun n i=>jl a1 b n i=some R) (Of:=fun i=>[]) (Gf:=fun i=>[(2,ce aJ a1),(3,ce aJ b),(5,cb i)]) (fun i h=>nn h) (fun n ih i h=>?_) ef (0:Int) h) (aR I);refine aq<|aa<|aj<|av I<|zo I (aU fM cz I I)<|zo I (bf nd I I)<|zo I (d5 jR I)<|zo I (ek I I)<|ai<|bR h I (fun h=>?_) (fun h=>?_)
   ·refine dk<|aa<|ak<|aa<|bA h fun e q_e h=>bA h fun e1 q_e1 h=>bA h fun t2 q_t2 h=>?_
    obtain⟨r2,h1t2,h0t2⟩:=og q_t2
    have q_r2g:=fun hb=>(h1t2 hb).1
    refine fq (ts:=[_,_,_,_,_,_,_,_,_,_,_,_,_,_,_,_,_,_,_,_,_,_,_,_,_,_,_,_,_]) mixed I I
     ⟨im 2 I I I (aU fM cz I I),
     ⟨dQ 86 0 I I I (bf nd I I),
     ⟨im 5 I I I (cw I),
     ⟨eF 87 1 88 2 I I I I (gI jR fE I I I q_e),
     ⟨dQ 89 3 I I I (aU ie ga I I),
     ⟨dQ 90 4 I I I (bf bp I I),
     ⟨im 3 I I I (aU fM cz I I),
     ⟨dQ 92 6 I I I (bf nd I I),
     ⟨im 5 I I I (cw I),
     ⟨eF 93 7 94 8 I I I I (gI jR fE I I I q_e1),
     ⟨dQ 95 9 I I I (aU ie ga I I),
     ⟨dQ 96 10 I I I (bf bp I I),
     ⟨eF 91 5 97 11 I I I I (bM (ht I) (ht I)),
     ⟨dQ 98 12 I I I (cw I),
     ⟨p6 2 99 13 I I I I (gg I I I I (fun hg=>aU fM cz I I)),
     ⟨iL 100 14 99 13 I I I I (gg I I I I (fun hg=>am nd I I (aA I hg))),
     ⟨p6 5 99 13 I I I I (gg I I I I (fun hg=>cw I)),
     ⟨xT 101 15 102 16 99 13 I I I I I (gg I I I I (fun hg=>eT jR fE I (aA I hg) (aA I hg) q_e)),
     ⟨iL 103 17 99 13 I I I I (gg I I I I (fun hg=>cK md I kf I (aA I hg))),
     ⟨iL 104 18 99 13 I I I I (gg I I I I (fun hg=>am fv I I (aA I hg))),
     ⟨p6 3 99 13 I I I I (gg I I I I (fun hg=>aU fM cz I I)),
     ⟨iL 106 20 99 13 I I I I (gg I I I I (fun hg=>am nd I I (aA I hg))),
     ⟨p6 5 99 13 I I I I (gg I I I I (fun hg=>cw I)),
     ⟨xT 107 21 108 22 99 13 I I I I I (gg I I I I (fun hg=>eT jR fE I (aA I hg) (aA I hg) q_e1)),
     ⟨iL 109 23 99 13 I I I I (gg I I I I (fun hg=>cK md I kf I (aA I hg))),
     ⟨iL 110 24 99 13 I I I I (gg I I I I (fun hg=>am fv I I (aA I hg))),
     ⟨xT 105 19 111 25 99 13 I I I I I (gg I I I I (fun hg=>aG MD (Ew _ _ (q_r2g hg)) ⟨(aA I hg),(aA I hg),aZ⟩)),
     ⟨iL 112 26 99 13 I I I I (gg I I I I (fun hg=>dP (aA I hg))),
     ⟨eF 99 13 113 27 I I I I (fF (ht I) (fun hb=>(aA I (oH hb))) (fun hb=>(h1t2 hb).2) h0t2),
     aZ⟩⟩⟩⟩⟩⟩⟩⟩⟩⟩⟩⟩⟩⟩⟩⟩⟩⟩⟩⟩⟩⟩⟩⟩⟩⟩⟩⟩⟩ ?_
    refine af<|bR h rfl (fun h=>?_) (fun h=>?_)
    ·refine aj<|zo I (dd)<|ai<|ah ?_;refine au (J (J (au (J ?_))));cases so h;exact aw I I
    ·refine aP<|ac<|af<|ae<|av rfl<|zo rfl (dI (ht rfl) hI)<|aS rfl<|ay ?_;exact aM (aD (ih (IntKind.i64.wrap (i+(1:Int))) h) (aR I))
   ·refine bc ?_;refine M (M (aC ?_));refine af<|aa<|aj<|zo rfl (dD)<|ai<|ak<|bn ?_;refine aD (wO (Z:=fun n1 i1=>jk a1 b n1 i1=some R) (Of:=fun i1=>[]) (Gf:=fun i1=>[(2,ce aJ a1),(3,ce aJ b),(6,cb i1)]) (fun i1 h=>nn h) (fun n1 ih1 i1 h=>?_) ef (0:Int) h) (aR I);refine aq<|aa<|aj<|av I<|zo I (aU iA dR I I)<|zo I (bf sv I I)<|zo I (d5 pR I)<|zo I (ek I I)<|ai<|bR h I (fun h=>?_) (fun h=>?_)
    ·refine dk<|aa<|ak<|aa<|bA h fun e2 q_e2 h=>bA h fun e3 q_e3 h=>?_
     refine fq (ts:=[_,_,_,_,_,_,_,_,_,_,_]) mixed I I
      ⟨im 2 I I I (aU iA dR I I),
      ⟨dQ 122 0 I I I (bf sv I I),
      ⟨im 6 I I I (cw I),
      ⟨eF 123 1 124 2 I I I I (gI pR pU I I I q_e2),
      ⟨dQ 125 3 I I I (bf pU I I),
      ⟨im 3 I I I (aU iA dR I I),
      ⟨dQ 127 5 I I I (bf sv I I),
      ⟨im 6 I I I (cw I),
      ⟨eF 128 6 129 7 I I I I (gI pR pU I I I q_e3),
      ⟨dQ 130 8 I I I (bf pU I I),
      ⟨eF 126 4 131 9 I I I I (rz PE (ht I) (ht I)),
      aZ⟩⟩⟩⟩⟩⟩⟩⟩⟩⟩⟩ ?_
     refine af<|bR h rfl (fun h=>?_) (fun h=>?_)
     ·refine aj<|zo I (dd)<|ai<|ah ?_;refine au (J (J (au (J ?_))));cases so h;exact aw I I
     ·refine aP<|ac<|af<|ae<|av rfl<|zo rfl (dI (ht rfl) hI)<|aS rfl<|ay ?_;exact aM (aD (ih1 (IntKind.i64.wrap (i1+(1:Int))) h) (aR I))
    ·refine bc ?_;refine M (M (aC ?_));refine af<|aj<|zo rfl (aU o8 gN rfl rfl)<|zo rfl (bf fv rfl rfl)<|zo rfl (aU o8 gN rfl rfl)<|zo rfl (bf fv rfl rfl)<|bA h fun r3 q_r3 h=>zo I (aG MD (Ew _ _ q_r3) ⟨(ht I),(ht I),aZ⟩)<|av I<|bA h fun t3 q_t3 h=>aO I I (fun hg=>aU m2 gq I I)<|aO I I (fun hg=>am u4 I I (aA I hg))<|aO I I (fun hg=>aU m2 gq I I)<|aO I I (fun hg=>am u4 I I (aA I hg)) ?_
     obtain⟨r4,h1t3,h0t3⟩:=og q_t3
     have q_r4g:=fun hb=>(h1t3 hb).1
     refine aO I I (fun hg=>aG Ui (OK _ _ (q_r4g hg)) ⟨(aA I hg),(aA I hg),aZ⟩)<|zo I (bN (ht I) (fun hb=>(aA I hb)) (fun hb=>(h1t3 hb).2) h0t3)<|aS I<|ai<|ah ?_;cases so h;exact aw I I

theorem Q5(a1:dh)(b:dh){R:Bool}(h:um a1 b=some R):bk ba 49 [tD j5 a1,tD j5 b] (fx R):=by
 refine bk.of Tryz.func49 I I I fun w0 S0=>aj<|zo I (kp I)<|zo I (kp I)<|zo I (dd)<|ai<|aa<|aj<|zo I (aU m1 lg I I)<|zo I (bf ox I I)<|zo I (d5 ji I)<|zo I (aU m1 lg I I)<|zo I (bf ox I I)<|zo I (d5 ji I)<|zo I (bM (ht I) (ht I))<|ai<|bR h I (fun h=>?_) (fun h=>?_)
 ·refine aj<|zo I (dd)<|ai<|ah<|J ?_;cases so h;exact aw I I
 ·refine dk<|aa<|aj<|zo I (dD)<|ai<|ak<|bn ?_;refine aD (wO (Z:=fun n i=>mI a1 b n i=some R) (Of:=fun i=>[]) (Gf:=fun i=>[(2,ce j5 a1),(3,ce j5 b),(5,cb i)]) (fun i h=>nn h) (fun n ih i h=>?_) ef (0:Int) h) (aR I);refine aq<|aa<|aj<|av I<|zo I (aU m1 lg I I)<|zo I (bf ox I I)<|zo I (d5 ji I)<|zo I (ek I I)<|ai<|bR h I (fun h=>?_) (fun h=>?_)
  ·refine dk<|aa<|ak<|aa<|bA h fun e q_e h=>bA h fun e1 q_e1 h=>bA h fun r q_r h=>?_
   refine fq (ts:=[_,_,_,_,_,_,_,_,_,_,_,_]) mixed I I
    ⟨im 2 I I I (aU m1 lg I I),
    ⟨dQ 20 0 I I I (bf ox I I),
    ⟨im 5 I I I (cw I),
    ⟨eF 21 1 22 2 I I I I (gI ji ej I I I q_e),
    ⟨dQ 23 3 I I I (bf ej I I),
    ⟨im 3 I I I (aU m1 lg I I),
    ⟨dQ 25 5 I I I (bf ox I I),
    ⟨im 5 I I I (cw I),
    ⟨eF 26 6 27 7 I I I I (gI ji ej I I I q_e1),
    ⟨dQ 28 8 I I I (bf ej I I),
    ⟨eF 24 4 29 9 I I I I (aG UA (O3 _ _ q_r) ⟨(ht I),(ht I),aZ⟩),
    ⟨dQ 30 10 I I I (dP (ht I)),
    aZ⟩⟩⟩⟩⟩⟩⟩⟩⟩⟩⟩⟩ ?_
   refine af<|bR h rfl (fun h=>?_) (fun h=>?_)
   ·refine aj<|zo I (dd)<|ai<|ah ?_;refine au (J (J (au (J ?_))));cases so h;exact aw I I
   ·refine aP<|ac<|af<|ae<|av rfl<|zo rfl (dI (ht rfl) hI)<|aS rfl<|ay ?_;exact aM (aD (ih (IntKind.i64.wrap (i+(1:Int))) h) (aR I))
  ·refine bc ?_;refine M (M (aC ?_));refine af<|aj<|zo rfl (dd)<|ai<|ah ?_;cases so h;exact aw I I

theorem Ri(a1:dn)(b:dn){R:Bool}(h:ul a1 b=some R):bk ba 24 [tD iy a1,tD iy b] (fx R):=by
 refine bk.of Tryz.func24 I I I fun w0 S0=>aj<|zo I (kp I)<|zo I (kp I)<|zo I (dd)<|ai<|aa<|aj<|zo I (aU lE fQ I I)<|zo I (bf tA I I)<|zo I (d5 pS I)<|zo I (aU lE fQ I I)<|zo I (bf tA I I)<|zo I (d5 pS I)<|zo I (bM (ht I) (ht I))<|ai<|bR h I (fun h=>?_) (fun h=>?_)
 ·refine aj<|zo I (dd)<|ai<|ah<|J ?_;cases so h;exact aw I I
 ·refine dk<|aa<|aj<|zo I (aU lE fQ I I)<|zo I (bf tA I I)<|zo I (d5 pS I)<|zo I (bm hI)<|ai<|ak<|aT (k:=16) I fun hN=>bn ?_;refine aD (dv (Z:=fun ls i=>(a1.Frags.drop i=ls)∧oC b ls i=some R) (Of:=fun _ i=>[]) (Gf:=fun _ i=>[(3,ce iy b),(16,dM (fa) a1.Frags),(17,iB a1.Frags),(18,cb (i:Int))]) (fun i h=>?_) (fun e tl ih i h=>?_) a1.Frags 0 ⟨I,h⟩) (aR I)
  ·obtain⟨hx,h⟩:=h
   refine aq<|aj<|zo I (ek I I)<|ai<|aa<|bu (ht I) (de hx)<|bc ?_;refine M (M (aC ?_));refine af<|aj<|zo rfl (dd)<|ai<|ah ?_;cases so h;exact aw I I
  ·obtain⟨hx,h⟩:=h
   refine aq<|aj<|zo I (ek I I)<|ai<|aa<|bt (ht I) (cX hx)<|dk<|aa<|ak<|aj<|av I<|zo I (gI pS ml I I I (cS hx))<|zo I (bf ml I I)<|bJ (r:=fa) (x:=DL) ml (fun _=>rn _) I fun b1=>aS I<|aQ ml I aY I (ht I) (ht I)<|bE 6 I<|ai<|aa ?_;refine ae<|zo I (aU lE fQ I I)<|zo I (bf tA I I)<|av I<|bA h fun e1 q_e1 h=>zo I (gI pS ml I I I q_e1)<|zo I (bf ml I I)<|bJ (r:=fa) (x:=DL) ml (fun _=>rn _) I fun b2=>aQ ml I aY I (ht I) (ht I)<|bE 7 I<|ai<|aj<|zo I (aU tm mU I I)<|zo I (bf bp I I)<|zo I (aU tm mU I I)<|zo I (bf bp I I)<|zo I (bM (ht I) (ht I))<|av I<|bI I I (fun hg=>aU tk mT I I)<|bI I I (fun hg=>am bp I I (aA I hg))<|bI I I (fun hg=>aU tk mT I I)<|bI I I (fun hg=>am bp I I (aA I hg)) ?_;refine bI I I (fun hg=>bM (aA I hg) (aA I hg))<|zo I (kh I I)<|av I<|bA h fun t q_t h=>bI I I (fun hg=>aU qm jV I I)<|bI I I (fun hg=>am bV I I (aA I hg))<|bI I I (fun hg=>aU qm jV I I)<|bI I I (fun hg=>am bV I I (aA I hg)) ?_
   obtain⟨r,h1t,h0t⟩:=og q_t
   have q_rg:=fun hb=>(h1t hb).1
   refine bI I I (fun hg=>aG RQ (H0 _ _ (q_rg hg)) ⟨(aA I hg),(aA I hg),aZ⟩)<|bI I I (fun hg=>dP (aA I hg))<|zo I (fF (ht I) (fun hb=>(aA I (oH hb))) (fun hb=>(h1t hb).2) h0t)<|av I<|bA h fun t1 q_t1 h=>bI I I (fun hg=>aU re kC I I)<|bI I I (fun hg=>am ox I I (aA I hg))<|bI I I (fun hg=>fX (y:=(⟨e.Nodes⟩:dh)) Cp SR E5 (⟨_,_,_,_,_,I,A7,I,(aA I hg),I⟩))<|bI I I (fun hg=>aU re kC I I)<|bI I I (fun hg=>am ox I I (aA I hg))<|bI I I (fun hg=>fX (y:=(⟨e1.Nodes⟩:dh)) Cp SR E5 (⟨_,_,_,_,_,I,A7,I,(aA I hg),I⟩)) ?_
   obtain⟨r1,h1t1,h0t1⟩:=og q_t1
   have q_r1g:=fun hb=>(h1t1 hb).1
   refine bI I I (fun hg=>aG Vv (Q5 _ _ (q_r1g hg)) ⟨(aA I hg),(aA I hg),aZ⟩)<|bI I I (fun hg=>dP (aA I hg))<|zo I (fF (ht I) (fun hb=>(aA I (oH hb))) (fun hb=>(h1t1 hb).2) h0t1)<|ai<|bR h I (fun h=>?_) (fun h=>?_)
   ·refine aj<|zo I (dd)<|ai<|ah ?_;refine au (J (J (au (J ?_))));cases so h;exact aw I I
   ·refine aP<|ac<|af<|ae<|zo rfl (jL (cy hx hN) rfl)<|av rfl<|ay ?_;exact aM (aD (ih (i+1) ⟨cx hx,h⟩) (aR I))

theorem OU(a1:(List aF))(b:(List aF)){R:Bool}(h:qE a1 b=some R):bk ba 120 [dM (bF) a1,dM (bF) b] (fx R):=by
 refine bk.of Tryz.func120 I I I fun w0 S0=>aj<|zo I (dd)<|ai<|aa<|aj<|av I<|zo I (d5 pY I)<|av I<|zo I (d5 pY I)<|zo I (bM (ht I) (ht I))<|ai<|bR h I (fun h=>?_) (fun h=>?_)
 ·refine aj<|zo I (dd)<|ai<|ah<|J ?_;cases so h;exact aw I I
 ·refine dk<|aa<|aj<|av I<|zo I (d5 pY I)<|zo I (bm hI)<|ai<|ak<|aT (k:=11) I fun hN=>bn ?_;refine aD (dv (Z:=fun ls i=>(a1.drop i=ls)∧oa b ls i=some R) (Of:=fun _ i=>[]) (Gf:=fun _ i=>[(0,dM (bF) a1),(1,dM (bF) b),(12,iB a1),(13,cb (i:Int))]) (fun i h=>?_) (fun e tl ih i h=>?_) a1 0 ⟨I,h⟩) (aR I)
  ·obtain⟨hx,h⟩:=h
   refine aq<|aj<|zo I (ek I I)<|ai<|aa<|bu (ht I) (de hx)<|bc ?_;refine M (M (aC ?_));refine af<|aj<|zo rfl (dd)<|ai<|ah ?_;cases so h;exact aw I I
  ·obtain⟨hx,h⟩:=h
   refine aq<|aj<|zo I (ek I I)<|ai<|aa<|bt (ht I) (cX hx)<|dk<|aa<|ak<|aj<|av I<|aS I<|ai<|aa<|bA h fun e1 q_e1 h=>?_
   refine fq (ts:=[_,_,_,_,_,_,_,_,_]) mixed I I
    ⟨im 0 I I I (cw I),
    ⟨im 5 I I I (cw I),
    ⟨eF 16 0 17 1 I I I I (gI pY ft I I I (cS hx)),
    ⟨dQ 18 2 I I I (bf ft I I),
    ⟨im 1 I I I (cw I),
    ⟨im 5 I I I (cw I),
    ⟨eF 20 4 21 5 I I I I (gI pY ft I I I q_e1),
    ⟨dQ 22 6 I I I (bf ft I I),
    ⟨eF 19 3 23 7 I I I I (rz zT (ht I) (ht I)),
    aZ⟩⟩⟩⟩⟩⟩⟩⟩⟩ ?_
   refine af<|bR h rfl (fun h=>?_) (fun h=>?_)
   ·refine aj<|zo I (dd)<|ai<|ah ?_;refine au (J (J (au (J ?_))));cases so h;exact aw I I
   ·refine aP<|ac<|af<|ae<|zo rfl (jL (cy hx hN) rfl)<|av rfl<|ay ?_;exact aM (aD (ih (i+1) ⟨cx hx,h⟩) (aR I))

theorem QP(a1:(List (List aF)))(b:(List (List aF))){R:Bool}(h:ur a1 b=some R):bk ba 75 [dM (pZ) a1,dM (pZ) b] (fx R):=by
 refine bk.of Tryz.func75 I I I fun w0 S0=>aj<|zo I (dd)<|ai<|aa<|aj<|av I<|zo I (d5 nV I)<|av I<|zo I (d5 nV I)<|zo I (bM (ht I) (ht I))<|ai<|bR h I (fun h=>?_) (fun h=>?_)
 ·refine aj<|zo I (dd)<|ai<|ah<|J ?_;cases so h;exact aw I I
 ·refine dk<|aa<|aj<|av I<|zo I (d5 nV I)<|zo I (bm hI)<|ai<|ak<|aT (k:=11) I fun hN=>bn ?_;refine aD (dv (Z:=fun ls i=>(a1.drop i=ls)∧qD b ls i=some R) (Of:=fun _ i=>[]) (Gf:=fun _ i=>[(0,dM (pZ) a1),(1,dM (pZ) b),(12,iB a1),(13,cb (i:Int))]) (fun i h=>?_) (fun e tl ih i h=>?_) a1 0 ⟨I,h⟩) (aR I)
  ·obtain⟨hx,h⟩:=h
   refine aq<|aj<|zo I (ek I I)<|ai<|aa<|bu (ht I) (de hx)<|bc ?_;refine M (M (aC ?_));refine af<|aj<|zo rfl (dd)<|ai<|ah ?_;cases so h;exact aw I I
  ·obtain⟨hx,h⟩:=h
   refine aq<|aj<|zo I (ek I I)<|ai<|aa<|bt (ht I) (cX hx)<|dk<|aa<|ak<|aj<|av I<|aS I<|ai<|aa<|bA h fun e1 q_e1 h=>bA h fun r q_r h=>?_
   refine fq (ts:=[_,_,_,_,_,_,_,_,_,_]) mixed I I
    ⟨im 0 I I I (cw I),
    ⟨im 5 I I I (cw I),
    ⟨eF 16 0 17 1 I I I I (gI nV pV I I I (cS hx)),
    ⟨dQ 18 2 I I I (bf pV I I),
    ⟨im 1 I I I (cw I),
    ⟨im 5 I I I (cw I),
    ⟨eF 20 4 21 5 I I I I (gI nV pV I I I q_e1),
    ⟨dQ 22 6 I I I (bf pV I I),
    ⟨eF 19 3 23 7 I I I I (aG Us (OU _ _ q_r) ⟨(ht I),(ht I),aZ⟩),
    ⟨dQ 24 8 I I I (dP (ht I)),
    aZ⟩⟩⟩⟩⟩⟩⟩⟩⟩⟩ ?_
   refine af<|bR h rfl (fun h=>?_) (fun h=>?_)
   ·refine aj<|zo I (dd)<|ai<|ah ?_;refine au (J (J (au (J ?_))));cases so h;exact aw I I
   ·refine aP<|ac<|af<|ae<|zo rfl (jL (cy hx hN) rfl)<|av rfl<|ay ?_;exact aM (aD (ih (i+1) ⟨cx hx,h⟩) (aR I))

end Go.Proofs.YtdohlidddcgfjaaGreat

