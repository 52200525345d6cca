/- cT of this claim: P15. -/
import Derived.Test.YtdohlidddcgfjaaGreatFaT
import Derived.Test.YtdohlidddcgfjaaGreatFaP14
set_option linter.all false
namespace Go.Proofs.YtdohlidddcgfjaaGreat
open Go
set_option maxRecDepth 100000

theorem N2(tag:Int){R:Int}(h:vA tag=some R):bk ba 247 [cb tag] (cb R):=by
 refine bk.of Tryz.func247 I I I fun w0 S0=>aj<|zo I (dD)<|ai<|aa<|ak<|aj<|av I<|zo I (d8 (ht I) hI)<|av I<|bI I I (fun hg=>cw I)<|bI I I (fun hg=>cH (aA I hg) hI)<|zo I (kh I I)<|aS I<|ai<|bR h I (fun h=>?_) (fun h=>?_)
 ·refine aj<|zo I (dD)<|ai<|ah ?_;refine au (J ?_);cases so h;exact aw I I
 ·refine aj<|av I<|zo I (dV (ht I) hI)<|aS I<|ai<|bR h I (fun h=>?_) (fun h=>?_)
  ·refine aj<|zo I (dD)<|ai<|ah ?_;refine au (J ?_);cases so h;exact aw I I
  ·refine aj<|av I<|zo I (dV (ht I) hI)<|aS I<|ai<|bR h I (fun h=>?_) (fun h=>?_)
   ·refine aj<|zo I (dD)<|ai<|ah ?_;refine au (J ?_);cases so h;exact aw I I
   ·refine aP<|ac<|af<|aj<|zo rfl (dD)<|ai<|ah ?_;cases so h;exact aw I I

theorem Oh(tag:Int){R:Int}(h:sL tag=some R):bk ba 227 [cb tag] (cb R):=by
 refine bk.of Tryz.func227 I I I fun w0 S0=>aj<|zo I (dD)<|ai<|aa<|aj<|av I<|zo I (d6 I)<|av I<|bI I I (fun hg=>cw I)<|bI I I (fun hg=>dc (aA I hg) hI)<|bI I I (fun hg=>bm (aA I hg))<|cP I I I I (fun hg=>cw I)<|cP I I I I (fun hg=>dV (aA I hg) hI)<|bI I I (fun hg=>hX (aA I hg) (fun hb=>(aA I (pT hg hb))))<|zo I (kh I I)<|ai<|bR h I (fun h=>?_) (fun h=>?_)
 ·refine aj<|zo I (dD)<|ai<|ah<|J ?_;cases so h;exact aw I I
 ·refine dk<|aj<|av I<|bA h fun r q_r h=>zo I (aG Tm (N2 _ q_r) ⟨(ht I),aZ⟩)<|aS I<|ai<|ah ?_;cases so h;exact aw I I

theorem NQ(v:aF){R:Bool}(h:sO v=some R):bk ba 277 [tD bF v] (fx R):=by
 refine bk.of Tryz.func277 I I I fun w0 S0=>aj<|zo I (kp I)<|zo I (dd)<|ai<|aj<|zo I (bf ft I I)<|bA h fun r q_r h=>zo I (aG MG (Ey _ q_r) ⟨(ht I),aZ⟩)<|av I<|aO I I (fun hg=>aU nc jB I I)<|aO I I (fun hg=>am bp I I (aA I hg))<|aO I I (fun hg=>bM (aA I hg) hI)<|zo I (fV I I)<|aS I<|ai<|ah ?_;cases so h;exact aw I I

theorem NU(n:bC){R:Bool}(h:jK n=some R):bk ba 263 [tD bG n] (fx R):=by
 refine bk.of Tryz.func263 I I I fun w0 S0=>aj<|zo I (kp I)<|zo I (dd)<|ai<|aa<|aj<|zo I (aU iU eo I I)<|zo I (bf bp I I)<|ai<|ak<|aj<|zo I (d6 I)<|aS I<|ai<|bR h I (fun h=>?_) (fun h=>?_)
 ·refine aj<|zo I (aU pM jC I I)<|zo I (bf ft I I)<|bA h fun r q_r h=>zo I (aG S9 (NQ _ q_r) ⟨(ht I),aZ⟩)<|av I<|aO I I (fun hg=>aU na gO I I)<|aO I I (fun hg=>am bp I I (aA I hg))<|aO I I (fun hg=>bz (aA I hg) hI)<|zo I (fV I I)<|aS I<|ai<|ah ?_;refine au (J ?_);cases so h;exact aw I I
 ·refine aj<|zo I (d6 I)<|aS I<|ai<|bR h I (fun h=>?_) (fun h=>?_)
  ·refine aj<|zo I (aU pM jC I I)<|zo I (bf ft I I)<|zo I (fX (y:=DH) ft Dm ni (I))<|zo I (wx zT (ht I) (ht I))<|av I<|aO I I (fun hg=>aU na gO I I)<|aO I I (fun hg=>am bp I I (aA I hg))<|aO I I (fun hg=>dc (aA I hg) hI)<|zo I (fV I I)<|av I<|aO I I (fun hg=>aU na gO I I)<|aO I I (fun hg=>am bp I I (aA I hg))<|aO I I (fun hg=>d8 (aA I hg) hI)<|zo I (fV I I)<|aS I<|ai<|ah ?_;refine au (J ?_);cases so h;exact aw I I
  ·refine aP<|ac<|af<|aj<|zo rfl (aU pM jC rfl rfl)<|zo rfl (bf ft rfl rfl)<|zo rfl (fX (y:=DH) ft Dm ni (I))<|zo I (wx zT (ht I) (ht I))<|av I<|aO I I (fun hg=>aU na gO I I)<|aO I I (fun hg=>am bp I I (aA I hg))<|aO I I (fun hg=>bz (aA I hg) hI)<|zo I (fV I I)<|aS I<|ai<|ah ?_;cases so h;exact aw I I

theorem Mh: ∀(fu:Nat) (e:bv) (place:Int) {R:Int} (h:hT fu e place=some R),bk ba 255 [tD bL e,cb place] (cb R):=by
 intro fu
 induction fu with
 |zero=>intro e place R h;exact(nn h).elim
 |succ fu ih=>
  intro e place R h
  refine bk.of Tryz.func255 I I I fun w0 S0=>aj<|zo I (kp I)<|zo I (dD)<|ai<|aa<|aj<|av I<|zo I (d8 (ht I) hI)<|av I<|bI I I (fun hg=>cw I)<|bI I I (fun hg=>aU fd di I I)<|bI I I (fun hg=>am lN I I (aA I hg))<|bI I I (fun hg=>bw jh (aA I hg))<|bI I I (fun hg=>dc (aA I hg) (aA I hg))<|zo I (kh I I)<|ai<|bR h I (fun h=>?_) (fun h=>?_)
  ·refine aj<|zo I (dD)<|ai<|ah<|J ?_;cases so h;exact aw I I
  ·refine dk<|aj<|zo I (aU fd di I I)<|zo I (bf lN I I)<|av I<|bA h fun e1 q_e1 h=>zo I (gI jh eb I I I q_e1)<|zo I (bf eb I I)<|bJ (r:=bG) (x:=AQ) eb (fun _=>lp _) I fun b=>aQ eb I aY I (ht I) (ht I)<|bE 5 I<|ai<|aj<|zo I (aU iU eo I I)<|zo I (bf bp I I)<|bA h fun r q_r h=>zo I (aG TD (Oh _ q_r) ⟨(ht I),aZ⟩)<|aS I<|ai ?_;refine aa<|aj<|av I<|zo I (d8 (ht I) hI)<|av I<|bA h fun t q_t h=>bI I I (fun hg=>bf eb I I) ?_
   obtain⟨r1,h1t,h0t⟩:=og q_t
   have q_r1g:=fun hb=>(h1t hb).1
   refine bI I I (fun hg=>aG Tc (NU _ (q_r1g hg)) ⟨(aA I hg),aZ⟩)<|bI I I (fun hg=>dP (aA I hg))<|zo I (fF (ht I) (fun hb=>(aA I (oH hb))) (fun hb=>(h1t hb).2) h0t)<|ai<|bR h I (fun h=>?_) (fun h=>?_)
   ·refine aj<|zo I (dD)<|ai<|ah<|J ?_;cases so h;exact aw I I
   ·refine dk<|aa<|aj<|av I<|zo I (d6 I)<|ai<|bR h I (fun h=>?_) (fun h=>?_)
    ·refine aa<|aj<|zo I (aU qH nR I I)<|zo I (bf bp I I)<|zo I (Aq I)<|av I<|bI I I (fun hg=>aU pN mb I I)<|bI I I (fun hg=>am bp I I (aA I hg))<|bI I I (fun hg=>bM (aA I hg) hI)<|zo I (kh I I)<|ai<|bR h I (fun h=>?_) (fun h=>?_)
     ·refine aj<|zo I (dD)<|ai<|ah ?_;refine J (J ?_);cases so h;exact aw I I
     ·refine dk<|aj<|zo I (dD)<|ai<|ah<|J ?_;cases so h;exact aw I I
    ·refine dk<|aj<|zo I (bf fv I I)<|av I<|zo I (dG (ht I) hI)<|bA h fun r2 q_r2 h=>zo I (aG My (ih _ _ q_r2) ⟨(ht I),(ht I),aZ⟩)<|aS I<|ai<|aa<|aj<|av I<|zo I (d6 I)<|ai<|bR h I (fun h=>?_) (fun h=>?_)
     ·refine aj<|zo I (dD)<|ai<|ah<|J ?_;cases so h;exact aw I I
     ·refine dk<|aa<|aj<|av I<|zo I (d6 I)<|ai<|bR h I (fun h=>?_) (fun h=>?_)
      ·refine aa<|aj<|zo I (aU qH nR I I)<|zo I (bf bp I I)<|av I<|zo I (dG (ht I) hI)<|zo I (bM (ht I) (ht I))<|av I<|bI I I (fun hg=>aU pN mb I I)<|bI I I (fun hg=>am bp I I (aA I hg))<|bI I I (fun hg=>bM (aA I hg) hI)<|zo I (kh I I)<|ai<|bR h I (fun h=>?_) (fun h=>?_)
       ·refine aj<|zo I (dD)<|ai<|ah ?_;refine J (J ?_);cases so h;exact aw I I
       ·refine dk<|aj<|av I<|zo I (dI (ht I) hI)<|aS I<|ai<|ah<|J ?_;cases so h;exact aw I I
      ·refine dk<|aj<|zo I (bf fv I I)<|av I<|zo I (dG (ht I) hI)<|av I<|zo I (dG (ht I) (ht I))<|bA h fun r3 q_r3 h=>zo I (aG My (ih _ _ q_r3) ⟨(ht I),(ht I),aZ⟩)<|aS I<|ai<|aa<|aj<|av I<|zo I (d6 I)<|av I<|bI I I (fun hg=>aU pN mb I I)<|bI I I (fun hg=>am bp I I (aA I hg))<|bI I I (fun hg=>cw I)<|bI I I (fun hg=>dG (aA I hg) hI) ?_;refine bI I I (fun hg=>bM (aA I hg) (aA I hg))<|zo I (kh I I)<|av I<|bI I I (fun hg=>aU qH nR I I)<|bI I I (fun hg=>am bp I I (aA I hg))<|bI I I (fun hg=>cw I)<|bI I I (fun hg=>dG (aA I hg) hI)<|bI I I (fun hg=>cw I)<|bI I I (fun hg=>dG (aA I hg) (aA I hg))<|bI I I (fun hg=>bM (aA I hg) (aA I hg))<|zo I (kh I I)<|ai<|bR h I (fun h=>?_) (fun h=>?_)
       ·refine aj<|zo I (dD)<|ai<|ah<|J ?_;cases so h;exact aw I I
       ·refine dk<|aj<|av I<|av I<|zo I (dI (ht I) (ht I))<|zo I (dI (ht I) hI)<|aS I<|ai<|ah ?_;cases so h;exact aw I I
theorem NY(e:bv)(place:Int){R:Int}(h:xp e place=some R):bk ba 255 [tD bL e,cb place] (cb R):=Mh ef e place h

theorem N4(e:bv){R:Bool}(h:sK e=some R):bk ba 240 [tD bL e] (fx R):=by
 refine bk.of Tryz.func240 I I I fun w0 S0=>aj<|zo I (kp I)<|zo I (dd)<|ai<|aa<|bA h fun t q_t h=>?_
 obtain⟨r,h1t,h0t⟩:=og q_t
 have q_rg:=fun hb=>(h1t hb).1
 refine fq (ts:=[_,_,_,_,_,_,_,_,_,_,_,_,_,_,_,_,_,_,_,_,_,_,_]) mixed I I
  ⟨im 1 I I I (aU fd di I I),
  ⟨dQ 3 0 I I I (bf lN I I),
  ⟨dQ 4 1 I I I (d5 jh I),
  ⟨dQ 5 2 I I I (dc (ht I) hI),
  ⟨dQ 6 3 I I I (cw I),
  ⟨p6 1 7 4 I I I I (dA I I I I (fun hg=>aU fd di I I)),
  ⟨iL 8 5 7 4 I I I I (dA I I I I (fun hg=>am lN I I (aA I hg))),
  ⟨iL 9 6 7 4 I I I I (dA I I I I (fun hg=>bw jh (aA I hg))),
  ⟨iL 10 7 7 4 I I I I (dA I I I I (fun hg=>dV (aA I hg) hI)),
  ⟨eF 7 4 11 8 I I I I (fV I I),
  ⟨dQ 12 9 I I I (cw I),
  ⟨p6 1 13 10 I I I I (dA I I I I (fun hg=>bf fv I I)),
  ⟨p6 1 13 10 I I I I (dA I I I I (fun hg=>aU fd di I I)),
  ⟨iL 15 12 13 10 I I I I (dA I I I I (fun hg=>am lN I I (aA I hg))),
  ⟨iL 16 13 13 10 I I I I (dA I I I I (fun hg=>bw jh (aA I hg))),
  ⟨iL 17 14 13 10 I I I I (dA I I I I (fun hg=>dG (aA I hg) hI)),
  ⟨xT 14 11 18 15 13 10 I I I I I (dA I I I I (fun hg=>aG My (NY _ _ (q_rg hg)) ⟨(aA I hg),(aA I hg),aZ⟩)),
  ⟨p6 1 13 10 I I I I (dA I I I I (fun hg=>aU fd di I I)),
  ⟨iL 20 17 13 10 I I I I (dA I I I I (fun hg=>am lN I I (aA I hg))),
  ⟨iL 21 18 13 10 I I I I (dA I I I I (fun hg=>bw jh (aA I hg))),
  ⟨xT 19 16 22 19 13 10 I I I I I (dA I I I I (fun hg=>bz (aA I hg) (aA I hg))),
  ⟨eF 13 10 23 20 I I I I (bN (ht I) (fun hb=>(aA I hb)) (fun hb=>(h1t hb).2) h0t),
  ⟨dQ 24 21 I I I (Cd I),
  aZ⟩⟩⟩⟩⟩⟩⟩⟩⟩⟩⟩⟩⟩⟩⟩⟩⟩⟩⟩⟩⟩⟩⟩ ?_
 refine af<|ah ?_;cases so h;exact aw I I

theorem AD(k:Int)(want:Int){R:Bool}(h:o6 k want=some R):bk ba 256 [cb k,cb want] (fx R):=by
 refine bk.of Tryz.func256 I I I fun w0 S0=>aj<|zo I (dd)<|ai<|aj<|av I<|av I<|zo I (bz (ht I) (ht I))<|av I<|bI I I (fun hg=>cw I)<|bI I I (fun hg=>bz (aA I hg) hI)<|zo I (kh I I)<|aS I<|ai<|ah ?_;cases so h;exact aw I I

theorem N3(tag:Int)(l:Int)(r:Int){R:Int×Bool}(h:qa tag l r=some R):bk ba 241 [cb tag,cb l,cb r] (tT [cb R.1,fx R.2]):=by
 refine bk.of Tryz.func241 I I I fun w0 S0=>aj<|zo I (dD)<|zo I (dd)<|ai<|aa<|ak<|aj<|av I<|zo I (d6 I)<|av I<|bI I I (fun hg=>cw I)<|bI I I (fun hg=>dc (aA I hg) hI)<|bI I I (fun hg=>bm (aA I hg))<|cP I I I I (fun hg=>cw I)<|cP I I I I (fun hg=>dV (aA I hg) hI)<|bI I I (fun hg=>hX (aA I hg) (fun hb=>(aA I (pT hg hb))))<|zo I (kh I I)<|aS I<|ai ?_;refine bR h I (fun h=>?_) (fun h=>?_)
 ·refine aj<|av I<|bA h fun r1 q_r1 h=>zo I (aG Jc (AD _ _ q_r1) ⟨(ht I),hI,aZ⟩)<|av I<|bA h fun t q_t h=>aO I I (fun hg=>cw I) ?_
  obtain⟨r2,h1t,h0t⟩:=og q_t
  have q_r2g:=fun hb=>(h1t hb).1
  refine aO I I (fun hg=>aG Jc (AD _ _ (q_r2g hg)) ⟨(aA I hg),hI,aZ⟩)<|zo I (bN (ht I) (fun hb=>(aA I hb)) (fun hb=>(h1t hb).2) h0t)<|zo I (dD)<|aS I<|ai<|ah ?_;refine au (J ?_);cases so h;exact bQ I I I
 ·refine aj<|av I<|zo I (d6 I)<|av I<|bI I I (fun hg=>cw I)<|bI I I (fun hg=>dc (aA I hg) hI)<|zo I (kh I I)<|aS I<|ai<|bR h I (fun h=>?_) (fun h=>?_)
  ·refine aj<|av I<|bA h fun r3 q_r3 h=>zo I (aG Jc (AD _ _ q_r3) ⟨(ht I),hI,aZ⟩)<|av I<|bA h fun t1 q_t1 h=>aO I I (fun hg=>cw I) ?_
   obtain⟨r4,h1t1,h0t1⟩:=og q_t1
   have q_r4g:=fun hb=>(h1t1 hb).1
   refine aO I I (fun hg=>aG Jc (AD _ _ (q_r4g hg)) ⟨(aA I hg),hI,aZ⟩)<|zo I (bN (ht I) (fun hb=>(aA I hb)) (fun hb=>(h1t1 hb).2) h0t1)<|zo I (dD)<|aS I<|ai<|ah ?_;refine au (J ?_);cases so h;exact bQ I I I
  ·refine aj<|av I<|zo I (d6 I)<|av I<|bI I I (fun hg=>cw I)<|bI I I (fun hg=>bz (aA I hg) hI)<|zo I (kh I I)<|aS I<|ai<|bR h I (fun h=>?_) (fun h=>?_)
   ·refine aj<|zo I (dD)<|zo I (dd)<|ai<|ah ?_;refine au (J ?_);cases so h;exact bQ I I I
   ·refine aP<|ac<|af<|aj<|av rfl<|av rfl<|zo rfl (bz (ht rfl) (ht rfl))<|av rfl<|bI rfl rfl (fun hg=>cw I)<|bI I I (fun hg=>bz (aA I hg) hI)<|zo I (kh I I)<|av I<|bI I I (fun hg=>cw I)<|bI I I (fun hg=>bz (aA I hg) hI)<|zo I (kh I I)<|zo I (dD)<|aS I<|ai<|ah ?_;cases so h;exact bQ I I I

theorem Eu(e:bv)(kinds:(List Int)){R:Int×Int}(h:qc e kinds=some R):bk ba 213 [tD bL e,iK kinds] (tT [cb R.1,cb R.2]):=by
 refine bk.of Tryz.func213 I I I fun w0 S0=>aj<|zo I (kp I)<|zo I (dD)<|zo I (dD)<|ai<|aa<|aj<|zo I (bf fv I I)<|bA h fun r q_r h=>zo I (aG Tp (N4 _ q_r) ⟨(ht I),aZ⟩)<|zo I (dP (ht I))<|ai<|bR h I (fun h=>?_) (fun h=>?_)
 ·refine aj<|zo I (dD)<|zo I (dD)<|ai<|ah<|J ?_;cases so h;exact bQ I I I
 ·refine dk<|aa<|aj<|av I<|zo I (d5 cR I)<|zo I (bm hI)<|ai<|ak<|aT (k:=20) I fun hN=>bn ?_;refine aD (dv (Z:=fun ls i=>(kinds.drop i=ls)∧oE e kinds ls=some R) (Of:=fun _ i=>[]) (Gf:=fun _ i=>[(1,iK kinds),(2,ce bL e),(20,iK kinds),(21,iB kinds),(22,cb (i:Int))]) (fun i h=>?_) (fun e1 tl ih i h=>?_) kinds 0 ⟨I,h⟩) (aR I)
  ·obtain⟨hx,h⟩:=h
   refine aq<|aj<|zo I (ek I I)<|ai<|aa<|bu (ht I) (de hx)<|bc ?_;refine M (M (aC ?_));refine af<|aa<|aj<|zo rfl (aU fd di rfl rfl)<|zo rfl (bf lN rfl rfl)<|zo rfl (d5 jh rfl)<|zo rfl (bm hI)<|ai<|ak<|aT (k:=34) I fun hN1=>bn ?_;refine aD (dv (Z:=fun ls1 i1=>(e.Nodes.drop i1=ls1)∧mK e kinds ls1=some R) (Of:=fun _ i1=>[]) (Gf:=fun _ i1=>[(1,iK kinds),(2,ce bL e),(34,dM (bG) e.Nodes),(35,iB e.Nodes),(36,cb (i1:Int))]) (fun i1 h=>?_) (fun e2 tl1 ih1 i1 h=>?_) e.Nodes 0 ⟨I,h⟩) (aR I)
   ·obtain⟨hx1,h⟩:=h
    refine aq<|aj<|zo I (ek I I)<|ai<|aa<|bu (ht I) (de hx1)<|bc ?_;refine M (M (aC ?_));refine af<|aj<|cd false cq 3<|zo rfl (aN sf)<|ai<|aa<|aj<|zo rfl (aU fd di rfl rfl)<|zo rfl (bf lN rfl rfl)<|zo rfl (d5 jh rfl)<|zo rfl (bm hI)<|ai<|ak<|aT (k:=52) I fun hN2=>bn ?_;refine aD (gF (Z:=fun ls2 i2 own l c=>(e.Nodes.drop i2=ls2)∧dm kinds ls2 own=some R) (Of:=fun _ i2 own l c=>[df cq 3 l c own]) (Gf:=fun _ i2 own l c=>[(1,iK kinds),(10,oY l c own),(52,dM (bG) e.Nodes),(53,iB e.Nodes),(54,cb (i2:Int))]) (fun i2 own l c h=>?_) (fun e3 tl2 ih2 i2 own l c h=>?_) e.Nodes 0 sr none 0 ⟨I,h⟩) (aR I)
    ·obtain⟨hx2,h⟩:=h
     refine aq<|aj<|zo I (ek I I)<|ai<|aa<|bu (ht I) (de hx2)<|bc ?_;refine M (M (aC ?_));refine af<|aj<|av rfl<|av rfl<|zo rfl (hY cR (.head _) (ht rfl))<|zo rfl (dG (ht rfl) hI)<|bA h fun e4 q_e4 h=>zo I (eh cR bp (.head _) (ht I) (ht I) q_e4)<|zo I (jc (r:=cq) (i:=(IntKind.i64.wrap ((own.length:Int)-(1:Int)))) (foff:=0) bp I I cA I (.head _) q_e4 (ht I))<|aS I<|zo I (dD)<|ai<|ah<|aX ?_;cases so h;exact bQ I I I
    ·obtain⟨hx2,h⟩:=h
     refine aq<|aj<|zo I (ek I I)<|ai<|aa<|bt (ht I) (cX hx2)<|dk<|aa<|ak<|aj<|zo I (gI jh eb I I I (cS hx2))<|zo I (bf eb I I)<|bJ (r:=bG) (x:=AQ) eb (fun _=>lp _) I fun b=>aQ eb I aY I (ht I) (ht I)<|bE 12 I<|ai<|ak<|aj ?_;refine zo I (aU iU eo I I)<|zo I (bf bp I I)<|zo I (d6 I)<|aS I<|ai<|bR h I (fun h=>?_) (fun h=>?_)
     ·refine ae<|av I<|zo I (aU pM jC I I)<|zo I (aU nc jB I I)<|zo I (bf bp I I)<|zo I (aH (r:=cq) (ys:=[e3.Value.Kind]) (xs:=[.tmp 92]) cR bp I I I I I ⟨(ht I),aZ⟩)<|bA h fun own1 q_own1 h=>be bp I I I I cR I I (ht I) (ht I) q_own1 fun l1 c1=>aS I<|ay<|ac<|ac<|af<|ae<|zo rfl (jL (cy hx2 hN2) rfl)<|av rfl<|ay ?_;exact aM (aD (ih2 (i2+1) own1 l1 c1 ⟨cx hx2,h⟩) (aR I))
     ·refine aj<|zo I (aU iU eo I I)<|zo I (bf bp I I)<|zo I (d6 I)<|aS I<|ai<|bR h I (fun h=>?_) (fun h=>?_)
      ·refine ae<|av I<|av I<|zo I (aU na gO I I)<|zo I (bf bp I I)<|bA h fun e5 q_e5 h=>zo I (gI cR bp I I I q_e5)<|zo I (bf bp I I)<|zo I (aH (r:=cq) (ys:=[e5]) (xs:=[.tmp 104]) cR bp I I I I I ⟨(ht I),aZ⟩)<|bA h fun own2 q_own2 h=>be bp I I I I cR I I (ht I) (ht I) q_own2 fun l2 c2=>aS I<|ay<|ac<|ac<|af<|ae<|zo rfl (jL (cy hx2 hN2) rfl)<|av rfl<|ay ?_;exact aM (aD (ih2 (i2+1) own2 l2 c2 ⟨cx hx2,h⟩) (aR I))
      ·refine aj<|av I<|zo I (aU qH nR I I)<|zo I (bf bp I I)<|bA h fun e6 q_e6 h=>zo I (eh cR bp (.head _) (ht I) (ht I) q_e6)<|zo I (jc (r:=cq) (i:=e3.L) (foff:=0) bp I I cA I (.head _) q_e6 (ht I))<|aS I<|zo I (dD)<|ai ?_;refine dj (Z:=fun r1=>oF (dm kinds tl2) e3 own e6 r1=some R) (Of:=fun r1=>[df cq 3 l c own]) (Gf:=fun r1=>[(1,iK kinds),(10,oY l c own),(12,ce bG e3),(13,cb e6),(14,cb r1),(52,dM (bG) e.Nodes),(53,iB e.Nodes),(54,cb (i2:Int))]) (fun r1 h=>?_) (fun K=>?_)
       ·skip
        refine aj<|zo I (aU iU eo I I)<|zo I (bf bp I I)<|av I<|av I<|bA h fun r2 q_r2 h=>zo I (aG Tn (N3 _ _ _ q_r2) ⟨(ht I),(ht I),(ht I),aZ⟩)<|av I<|zo I (nj I I)<|zo I (nj I I)<|aS I<|aS I<|ai<|aa<|aj<|av I<|zo I (dP (ht I))<|ai<|bR h I (fun h=>?_) (fun h=>?_)
        ·refine aj<|zo I (dD)<|zo I (dD)<|ai<|ah ?_;refine J (au (au (J (J (au (J ?_))))));refine aX ?_;cases so h;exact bQ I I I
        ·refine dk<|ae<|av I<|av I<|zo I (aH (r:=cq) (ys:=[r2.1]) (xs:=[.tmp 82]) cR bp I I I I I ⟨(ht I),aZ⟩)<|bA h fun own3 q_own3 h=>be bp I I I I cR I I (ht I) (ht I) q_own3 fun l3 c3=>aS I<|ay<|ac<|ac<|af<|ae<|zo rfl (jL (cy hx2 hN2) rfl)<|av rfl<|ay ?_;exact aM (aD (ih2 (i2+1) own3 l3 c3 ⟨cx hx2,h⟩) (aR I))
       ·skip
        refine aj<|zo I (aU pN mb I I)<|zo I (bf bp I I)<|zo I (dc (ht I) hI)<|ai<|bR h I (fun h=>?_) (fun h=>?_)
        ·refine ae<|av I<|zo I (aU pN mb I I)<|zo I (bf bp I I)<|bA h fun e7 q_e7 h=>zo I (eh cR bp (.head _) (ht I) (ht I) q_e7)<|zo I (jc (r:=cq) (i:=e3.R) (foff:=0) bp I I cA I (.head _) q_e7 (ht I))<|aS I<|ay ?_;exact bD (K e7 h) (aR I)
        ·refine aP ?_;exact bD (K (0:Int) h) (aR I)
   ·obtain⟨hx1,h⟩:=h
    refine aq<|aj<|zo I (ek I I)<|ai<|aa<|bt (ht I) (cX hx1)<|dk<|aa<|ak<|aj<|zo I (gI jh eb I I I (cS hx1))<|zo I (bf eb I I)<|bJ (r:=bG) (x:=AQ) eb (fun _=>lp _) I fun b1=>aQ eb I aY I (ht I) (ht I)<|bE 9 I<|ai<|aj<|zo I (aU iU eo I I) ?_;refine zo I (bf bp I I)<|zo I (d6 I)<|av I<|aO I I (fun hg=>aU na gO I I)<|aO I I (fun hg=>am bp I I (aA I hg))<|aO I I (fun hg=>cw I)<|aO I I (fun hg=>bw cR (aA I hg))<|aO I I (fun hg=>dc (aA I hg) (aA I hg))<|zo I (fV I I)<|ai<|bR h I (fun h=>?_) (fun h=>?_)
    ·refine aj<|zo I (dD)<|zo I (dD)<|ai<|ah ?_;refine au (J (J (au (J ?_))));cases so h;exact bQ I I I
    ·refine aP<|ac<|af<|ae<|zo rfl (jL (cy hx1 hN1) rfl)<|av rfl<|ay ?_;exact aM (aD (ih1 (i1+1) ⟨cx hx1,h⟩) (aR I))
  ·obtain⟨hx,h⟩:=h
   refine aq<|aj<|zo I (ek I I)<|ai<|aa<|bt (ht I) (cX hx)<|dk<|aa<|ak<|aj<|zo I (gI cR bp I I I (cS hx))<|zo I (bf bp I I)<|aS I<|ai<|aj<|av I<|zo I (d8 (ht I) hI)<|av I ?_;refine bI I I (fun hg=>cw I)<|bI I I (fun hg=>cH (aA I hg) hI)<|zo I (kh I I)<|ai<|bR h I (fun h=>?_) (fun h=>?_)
   ·refine aj<|zo I (dD)<|zo I (dD)<|ai<|ah ?_;refine au (J (J (au (J ?_))));cases so h;exact bQ I I I
   ·refine aP<|ac<|af<|ae<|zo rfl (jL (cy hx hN) rfl)<|av rfl<|ay ?_;exact aM (aD (ih (i+1) ⟨cx hx,h⟩) (aR I))

theorem I4(e:bv)(kinds:(List Int)){R:Bool}(h:qQ e kinds=some R):bk ba 211 [tD bL e,iK kinds] (fx R):=by
 refine bk.of Tryz.func211 I I I fun w0 S0=>aj<|zo I (kp I)<|zo I (dd)<|ai<|aj<|zo I (bf fv I I)<|av I<|bA h fun r q_r h=>zo I (aG Mz (Eu _ _ q_r) ⟨(ht I),(ht I),aZ⟩)<|av I<|zo I (nj I I)<|zo I (nj I I)<|aS I<|aS I<|ai<|aj<|av I<|zo I (d6 I) ?_;refine av I<|aO I I (fun hg=>cw I)<|aO I I (fun hg=>bz (aA I hg) hI)<|aO I I (fun hg=>bm (aA I hg))<|ck I I I I (fun hg=>cw I)<|ck I I I I (fun hg=>bz (aA I hg) hI)<|aO I I (fun hg=>jn (aA I hg) (fun hb=>(aA I (pT hg (oH hb)))))<|zo I (fV I I)<|aS I<|ai<|ah ?_;cases so h;exact aw I I

theorem Oi(a1:fy)(kinds:(List Int)){R:Int×Bool}(h:kw a1 kinds=some R):bk ba 212 [tD eQ a1,iK kinds] (tT [cb R.1,fx R.2]):=by
 refine bk.of Tryz.func212 I I I fun w0 S0=>aj<|zo I (kp I)<|zo I (dD)<|zo I (dd)<|ai<|aa<|aj<|zo I (aU ie ga I I)<|zo I (bf bp I I)<|zo I (d6 I)<|ai<|bR h I (fun h=>?_) (fun h=>?_)
 ·refine aa ?_
  refine fq (ts:=[_,_,_,_,_,_,_]) mixed I I
   ⟨im 2 I I I (aU md kf I I),
   ⟨dQ 11 0 I I I (aU fd di I I),
   ⟨dQ 12 1 I I I (bf lN I I),
   ⟨dQ 13 2 I I I (d5 jh I),
   ⟨dQ 14 3 I I I (d6 I),
   ⟨zd0 I I (dD),
   ⟨dQ 15 4 I I I (Cd I),
   aZ⟩⟩⟩⟩⟩⟩⟩ ?_
  refine af<|ah<|J ?_;cases so h;exact bQ I I I
 ·refine dk<|aj<|zo I (aU md kf I I)<|zo I (bf fv I I)<|av I<|bA h fun r q_r h=>zo I (aG Mz (Eu _ _ q_r) ⟨(ht I),(ht I),aZ⟩)<|av I<|zo I (nj I I)<|zo I (nj I I)<|aS I<|aS I<|ai<|aa<|aj<|zo I (aU ie ga I I)<|zo I (bf bp I I)<|zo I (d8 (ht I) hI)<|av I<|bI I I (fun hg=>aU ie ga I I) ?_;refine bI I I (fun hg=>am bp I I (aA I hg))<|bI I I (fun hg=>cH (aA I hg) hI)<|zo I (kh I I)<|av I<|bI I I (fun hg=>cw I)<|bI I I (fun hg=>bM (aA I hg) hI)<|zo I (kh I I)<|ai<|bR h I (fun h=>?_) (fun h=>?_)
  ·refine aj<|zo I (dD)<|zo I (dd)<|ai<|ah<|J ?_;cases so h;exact bQ I I I
  ·refine dk<|aa<|aj<|zo I (aU ie ga I I)<|zo I (bf bp I I)<|zo I (d6 I)<|av I<|aO I I (fun hg=>cw I)<|aO I I (fun hg=>bM (aA I hg) hI)<|zo I (fV I I)<|av I<|aO I I (fun hg=>cw I)<|aO I I (fun hg=>bM (aA I hg) hI)<|zo I (fV I I)<|ai<|bR h I (fun h=>?_) (fun h=>?_)
   ·refine aj<|zo I (dD)<|zo I (dd)<|ai<|ah<|J ?_;cases so h;exact bQ I I I
   ·refine dk<|aa<|aj<|zo I (aU ie ga I I)<|zo I (bf bp I I)<|zo I (dc (ht I) hI)<|ai<|bR h I (fun h=>?_) (fun h=>?_)
    ·refine aj<|av I<|aS I<|zo I (dd)<|ai<|ah<|J ?_;cases so h;exact bQ I I I
    ·refine dk<|aj<|zo I (dD)<|zo I (dd)<|ai<|ah ?_;cases so h;exact bQ I I I

end Go.Proofs.YtdohlidddcgfjaaGreat

