/- cT of this claim: P18. -/
import Derived.Test.YtdohlidddcgfjaaGreatFaT
import Derived.Test.YtdohlidddcgfjaaGreatFaP17
set_option linter.all false
namespace Go.Proofs.YtdohlidddcgfjaaGreat
open Go
set_option maxRecDepth 100000

theorem Rj(p:dn){R:Bool}(h:ui p=some R):bk ba 21 [tD iy p] (fx R):=by
 refine bk.of Tryz.func21 I I I fun w0 S0=>aj<|zo I (kp I)<|zo I (dd)<|ai<|aa<|aj<|zo I (aU lE fQ I I)<|zo I (bf tA I I)<|zo I (d5 pS I)<|zo I (d8 (ht I) hI)<|av I<|bI I I (fun hg=>aU lE fQ I I)<|bI I I (fun hg=>am tA I I (aA I hg))<|bI I I (fun hg=>bw pS (aA I hg))<|bI I I (fun hg=>cH (aA I hg) hI)<|zo I (kh I I)<|ai<|bR h I (fun h=>?_) (fun h=>?_)
 ·refine aj<|zo I (dd)<|ai<|ah<|J ?_;cases so h;exact aw I I
 ·refine dk<|aa<|aj<|zo I (dD)<|ai<|ak<|bn ?_;refine aD (wO (Z:=fun n i=>k7 p n i=some R) (Of:=fun i=>[]) (Gf:=fun i=>[(1,ce iy p),(3,cb i)]) (fun i h=>nn h) (fun n ih i h=>?_) ef (0:Int) h) (aR I);refine aq<|aa<|aj<|av I<|zo I (aU lE fQ I I)<|zo I (bf tA I I)<|zo I (d5 pS I)<|zo I (ek I I)<|ai<|bR h I (fun h=>?_) (fun h=>?_)
  ·refine dk<|aa<|ak<|aj<|zo I (aU lE fQ I I)<|zo I (bf tA I I)<|av I<|bA h fun e q_e h=>zo I (gI pS ml I I I q_e)<|zo I (bf ml I I)<|bJ (r:=fa) (x:=DL) ml (fun _=>rn _) I fun b=>aQ ml I aY I (ht I) (ht I)<|bE 4 I<|ai<|aa<|aj<|zo I (aU tm mU I I)<|zo I (bf bp I I)<|zo I (Aq I)<|av I ?_;refine aO I I (fun hg=>aU tm mU I I)<|aO I I (fun hg=>am bp I I (aA I hg))<|aO I I (fun hg=>bM (aA I hg) hI)<|zo I (fV I I)<|av I<|bI I I (fun hg=>aU tk mT I I)<|bI I I (fun hg=>am bp I I (aA I hg))<|bI I I (fun hg=>d8 (aA I hg) hI)<|zo I (kh I I)<|av I<|bI I I (fun hg=>aU tk mT I I)<|bI I I (fun hg=>am bp I I (aA I hg))<|bI I I (fun hg=>cH (aA I hg) hI)<|zo I (kh I I)<|av I<|bI I I (fun hg=>aU qm jV I I)<|bI I I (fun hg=>am bV I I (aA I hg))<|bI I I (fun hg=>bw cR (aA I hg))<|bI I I (fun hg=>cH (aA I hg) hI)<|zo I (kh I I)<|ai<|bR h I (fun h=>?_) (fun h=>?_)
   ·refine aj<|zo I (dd)<|ai<|ah ?_;refine J (au (J (J (au (J ?_)))));cases so h;exact aw I I
   ·refine dk<|aa<|aj<|zo I (dD)<|ai<|ak<|bn ?_;refine aD (wO (Z:=fun n1 k=>mF (k7 p n) i e n1 k=some R) (Of:=fun k=>[]) (Gf:=fun k=>[(1,ce iy p),(3,cb i),(4,ce fa e),(5,cb k)]) (fun k h=>nn h) (fun n1 ih1 k h=>?_) ef (0:Int) h) (aR I);refine aq<|aa<|aj<|av I<|zo I (aU qm jV I I)<|zo I (bf bV I I)<|zo I (d5 cR I)<|zo I (ek I I)<|ai<|bR h I (fun h=>?_) (fun h=>?_)
    ·refine dk<|aa<|ak<|aj<|zo I (aU qm jV I I)<|zo I (bf bV I I)<|av I<|bA h fun e1 q_e1 h=>zo I (gI cR bp I I I q_e1)<|zo I (bf bp I I)<|zo I (d8 (ht I) hI)<|av I<|bI I I (fun hg=>aU qm jV I I)<|bI I I (fun hg=>am bV I I (aA I hg))<|bI I I (fun hg=>cw I)<|bI I I (fun hg=>eT cR bp I (aA I hg) (aA I hg) q_e1)<|bI I I (fun hg=>am bp I I (aA I hg))<|bI I I (fun hg=>cH (aA I hg) hI)<|zo I (kh I I)<|ai<|bR h I (fun h=>?_) (fun h=>?_)
     ·refine aj<|zo I (dd)<|ai<|ah ?_;refine au (J (J (au (J (au (J (J (au (J ?_)))))))));cases so h;exact aw I I
     ·refine aP<|ac<|af<|ae<|av rfl<|zo rfl (dI (ht rfl) hI)<|aS rfl<|ay ?_;exact aM (aD (ih1 (IntKind.i64.wrap (k+(1:Int))) h) (aR I))
    ·refine bc ?_;refine M (M (aC ?_));refine af<|aj<|zo rfl (aU re kC rfl rfl)<|zo rfl (bf ox rfl rfl)<|bA h fun r q_r h=>zo I (aG Vx (Q6 _ q_r) ⟨(ht I),aZ⟩)<|av I<|zo I (nj I I)<|zo I (nj I I)<|aS I<|aS I<|ai<|aj<|av I<|zo I (dc (ht I) hI)<|ai<|bR h I (fun h=>?_) (fun h=>?_)
     ·refine aj<|zo I (dd)<|ai<|ah ?_;refine au (J (J (au (J ?_))));cases so h;exact aw I I
     ·refine aP<|ac<|af<|ae<|av rfl<|zo rfl (dI (ht rfl) hI)<|aS rfl<|ay ?_;exact aM (aD (ih (IntKind.i64.wrap (i+(1:Int))) h) (aR I))
  ·refine bc ?_;refine M (M (aC ?_));refine af<|aj<|zo rfl (dd)<|ai<|ah ?_;cases so h;exact aw I I

theorem OT(n:Int){R:Bool}(h:s8 n=some R):bk ba 121 [tD lq n] (fx R):=by
 refine bk.of Tryz.func121 I I I fun w0 S0=>aj<|zo I (dd)<|ai<|aj<|av I<|zo I (dc (ht I) hI)<|av I<|aO I I (fun hg=>cw I)<|aO I I (fun hg=>dV (aA I hg) hI)<|zo I (fV I I)<|aS I<|ai<|ah ?_;cases so h;exact aw I I

theorem Ot(r:(List aF)){R:Bool}(h:sN r=some R):bk ba 201 [dM (bF) r] (fx R):=by
 refine bk.of Tryz.func201 I I I fun w0 S0=>aj<|zo I (dd)<|ai<|aa<|aj<|av I<|zo I (d5 pY I)<|zo I (cH (ht I) hI)<|ai<|bR h I (fun h=>?_) (fun h=>?_)
 ·refine aj<|zo I (dd)<|ai<|ah<|J ?_;cases so h;exact aw I I
 ·refine dk<|aa<|aj<|zo I (dD)<|ai<|ak<|aT (k:=0) I fun hN=>bn ?_;refine aD (dv (Z:=fun ls i=>(r.drop i=ls)∧nD ls=some R) (Of:=fun _ i=>[]) (Gf:=fun _ i=>[(0,dM (bF) r),(3,cb (i:Int))]) (fun i h=>?_) (fun e tl ih i h=>?_) r 0 ⟨I,h⟩) (aR I)
  ·obtain⟨hx,h⟩:=h
   refine aq<|aa<|aj<|av I<|av I<|zo I (d5 pY I)<|zo I (ek I I)<|ai<|bu (ht I) (de hx)<|bc ?_;refine M (M (aC ?_));refine af<|aj<|zo rfl (dd)<|ai<|ah ?_;cases so h;exact aw I I
  ·obtain⟨hx,h⟩:=h
   refine aq<|aa<|aj<|av I<|av I<|zo I (d5 pY I)<|zo I (ek I I)<|ai<|bt (ht I) (cX hx)<|dk<|aa<|ak<|aj<|av I<|av I<|zo I (gI pY ft I I I (cS hx))<|zo I (bf ft I I)<|bA h fun r1 q_r1 h=>zo I (aG MG (Ey _ q_r1) ⟨(ht I),aZ⟩)<|zo I (dP (ht I)) ?_;refine ai<|bR h I (fun h=>?_) (fun h=>?_)
   ·refine aj<|zo I (dd)<|ai<|ah ?_;refine au (J (J (au (J ?_))));cases so h;exact aw I I
   ·refine aP<|ac<|af<|ae<|av rfl<|zo rfl (jL (cy hx hN) rfl)<|aS rfl<|ay ?_;exact aM (aD (ih (i+1) ⟨cx hx,h⟩) (aR I))

theorem OD(l:(List (List aF))){R:Bool}(h:uj l=some R):bk ba 161 [dM (pZ) l] (fx R):=by
 refine bk.of Tryz.func161 I I I fun w0 S0=>aj<|zo I (dd)<|ai<|aa<|aj<|av I<|zo I (d5 nV I)<|zo I (bm hI)<|ai<|ak<|aT (k:=5) I fun hN=>bn ?_;refine aD (dv (Z:=fun ls i=>(l.drop i=ls)∧mG l ls=some R) (Of:=fun _ i=>[]) (Gf:=fun _ i=>[(0,dM (pZ) l),(5,dM (pZ) l),(6,iB l),(7,cb (i:Int))]) (fun i h=>?_) (fun e tl ih i h=>?_) l 0 ⟨I,h⟩) (aR I)
 ·obtain⟨hx,h⟩:=h
  refine aq<|aj<|zo I (ek I I)<|ai<|aa<|bu (ht I) (de hx)<|bc ?_;refine M (M (aC ?_));refine af<|aj<|av rfl<|zo rfl (d5 nV rfl)<|zo rfl (dc (ht rfl) hI)<|av rfl<|aO rfl rfl (fun hg=>cw I)<|aO I I (fun hg=>bw nV (aA I hg))<|aO I I (fun hg=>dV (aA I hg) hI)<|zo I (fV I I)<|aS I<|ai<|ah ?_;cases so h;exact aw I I
 ·obtain⟨hx,h⟩:=h
  refine aq<|aj<|zo I (ek I I)<|ai<|aa<|bt (ht I) (cX hx)<|dk<|aa<|ak<|aj<|zo I (gI nV pV I I I (cS hx))<|zo I (bf pV I I)<|aS I<|ai<|aj<|av I<|bA h fun r q_r h=>zo I (aG TM (Ot _ q_r) ⟨(ht I),aZ⟩) ?_;refine zo I (dP (ht I))<|ai<|bR h I (fun h=>?_) (fun h=>?_)
  ·refine aj<|zo I (dd)<|ai<|ah ?_;refine au (J (J (au (J ?_))));cases so h;exact aw I I
  ·refine aP<|ac<|af<|ae<|zo rfl (jL (cy hx hN) rfl)<|av rfl<|ay ?_;exact aM (aD (ih (i+1) ⟨cx hx,h⟩) (aR I))

theorem OS(b:dH)(seq:Int){R:Bool}(h:sH b seq=some R):bk ba 122 [tD lv b,tD o3 seq] (fx R):=by
 refine bk.of Tryz.func122 I I I fun w0 S0=>aj<|zo I (kp I)<|zo I (dd)<|ai<|aa<|aj<|av I<|zo I (d8 (ht I) hI)<|av I<|bI I I (fun hg=>cw I)<|bI I I (fun hg=>cH (aA I hg) hI)<|zo I (kh I I)<|ai<|bR h I (fun h=>?_) (fun h=>?_)
 ·refine aj<|zo I (dd)<|ai<|ah<|J ?_;cases so h;exact aw I I
 ·refine dk<|aa<|aj<|zo I (aU qq iG I I)<|zo I (bf As I I)<|ai<|bR h I (fun h=>?_) (fun h=>?_)
  ·refine aj<|zo I (aU pL ic I I)<|zo I (bf xW I I)<|zo I (d5 nV I)<|zo I (d6 I)<|av I<|aO I I (fun hg=>aU qp iF I I)<|aO I I (fun hg=>am jZ I I (aA I hg))<|aO I I (fun hg=>cw I)<|aO I I (fun hg=>dG (aA I hg) hI)<|aO I I (fun hg=>bz (aA I hg) (aA I hg))<|zo I (fV I I)<|aS I<|ai<|ah<|J ?_;cases so h;exact aw I I
  ·refine dk<|aj<|zo I (aU qp iF I I)<|zo I (bf jZ I I)<|zo I (d6 I)<|av I<|bA h fun t q_t h=>aO I I (fun hg=>aU pL ic I I)<|aO I I (fun hg=>am xW I I (aA I hg)) ?_
   obtain⟨r,h1t,h0t⟩:=og q_t
   have q_rg:=fun hb=>(h1t hb).1
   refine aO I I (fun hg=>aG Ub (OD _ (q_rg hg)) ⟨(aA I hg),aZ⟩)<|zo I (bN (ht I) (fun hb=>(aA I hb)) (fun hb=>(h1t hb).2) h0t)<|aS I<|ai<|ah ?_;cases so h;exact aw I I

theorem QO(p:co){R:Bool}(h:ru p=some R):bk ba 76 [tD eU p] (fx R):=by
 refine bk.of Tryz.func76 I I I fun w0 S0=>aj<|zo I (kp I)<|zo I (dd)<|ai<|aa<|aj<|zo I (aU uA kS I I)<|zo I (bf oy I I)<|bA h fun r q_r h=>zo I (aG Ur (OT _ q_r) ⟨(ht I),aZ⟩)<|zo I (dP (ht I))<|ai<|bR h I (fun h=>?_) (fun h=>?_)
 ·refine aj<|zo I (dd)<|ai<|ah<|J ?_;cases so h;exact aw I I
 ·refine dk<|aa<|aj<|zo I (aU uB kT I I)<|zo I (bf bp I I)<|ai<|ak<|aj<|zo I (d6 I)<|aS I<|ai<|bR h I (fun h=>?_) (fun h=>?_)
  ·refine aj<|zo I (aU rh ir I I)<|zo I (bf jZ I I)<|zo I (d6 I)<|av I<|bA h fun t q_t h=>aO I I (fun hg=>aU iI cU I I)<|aO I I (fun hg=>am Na I I (aA I hg))<|aO I I (fun hg=>aU o9 f6 I I)<|aO I I (fun hg=>am jZ I I (aA I hg)) ?_
   obtain⟨r1,h1t,h0t⟩:=og q_t
   have q_r1g:=fun hb=>(h1t hb).1
   refine aO I I (fun hg=>aG Uq (OS _ _ (q_r1g hg)) ⟨(aA I hg),(aA I hg),aZ⟩)<|zo I (bN (ht I) (fun hb=>(aA I hb)) (fun hb=>(h1t hb).2) h0t)<|aS I<|ai<|ah ?_;refine au (J ?_);cases so h;exact aw I I
  ·refine aj<|zo I (d6 I)<|aS I<|ai<|bR h I (fun h=>?_) (fun h=>?_)
   ·refine aj<|zo I (aU iI cU I I)<|zo I (aU pL ic I I)<|zo I (bf xW I I)<|zo I (d5 nV I)<|zo I (d6 I)<|av I<|aO I I (fun hg=>aU iI cU I I)<|aO I I (fun hg=>cK qq I iG I (aA I hg))<|aO I I (fun hg=>am As I I (aA I hg))<|aO I I (fun hg=>dP (aA I hg))<|zo I (fV I I)<|av I<|aO I I (fun hg=>aU iI cU I I)<|aO I I (fun hg=>cK qp I iF I (aA I hg))<|aO I I (fun hg=>am jZ I I (aA I hg))<|aO I I (fun hg=>bz (aA I hg) hI)<|zo I (fV I I)<|aS I<|ai<|aj ?_;refine av I<|av I<|aO I I (fun hg=>aU o9 f6 I I)<|aO I I (fun hg=>am jZ I I (aA I hg))<|aO I I (fun hg=>dc (aA I hg) hI)<|zo I (fV I I)<|av I<|aO I I (fun hg=>aU o9 f6 I I)<|aO I I (fun hg=>am jZ I I (aA I hg))<|aO I I (fun hg=>dV (aA I hg) hI)<|zo I (fV I I)<|av I<|aO I I (fun hg=>aU rh ir I I)<|aO I I (fun hg=>am jZ I I (aA I hg))<|aO I I (fun hg=>aU o9 f6 I I)<|aO I I (fun hg=>am jZ I I (aA I hg))<|aO I I (fun hg=>dG (aA I hg) hI)<|aO I I (fun hg=>dc (aA I hg) (aA I hg))<|zo I (fV I I)<|av I<|aO I I (fun hg=>aU rh ir I I)<|aO I I (fun hg=>am jZ I I (aA I hg))<|aO I I (fun hg=>dV (aA I hg) hI)<|zo I (fV I I) ?_;refine aS I<|ai<|ah ?_;refine au (J ?_);cases so h;exact aw I I
   ·refine aP<|ac<|af<|aj<|zo rfl (dd)<|ai<|ah ?_;cases so h;exact aw I I

theorem Ra(m:cu){R:Bool}(h:sG m=some R):bk ba 34 [tD dN m] (fx R):=by
 refine bk.of Tryz.func34 I I I fun w0 S0=>aj<|zo I (kp I)<|zo I (dd)<|ai<|aa<|aj<|zo I (aU sj oK I I)<|zo I (bf bp I I)<|zo I (d8 (ht I) hI)<|av I<|bI I I (fun hg=>aU sj oK I I)<|bI I I (fun hg=>am bp I I (aA I hg))<|bI I I (fun hg=>cH (aA I hg) hI)<|zo I (kh I I)<|av I<|bI I I (fun hg=>aU si oJ I I)<|bI I I (fun hg=>am bp I I (aA I hg))<|bI I I (fun hg=>d8 (aA I hg) hI)<|zo I (kh I I)<|av I ?_;refine bI I I (fun hg=>aU si oJ I I)<|bI I I (fun hg=>am bp I I (aA I hg))<|bI I I (fun hg=>cH (aA I hg) hI)<|zo I (kh I I)<|av I<|bI I I (fun hg=>aU rg nP I I)<|bI I I (fun hg=>am bp I I (aA I hg))<|bI I I (fun hg=>d8 (aA I hg) hI)<|zo I (kh I I)<|av I<|bI I I (fun hg=>aU rg nP I I)<|bI I I (fun hg=>am bp I I (aA I hg))<|bI I I (fun hg=>cH (aA I hg) hI)<|zo I (kh I I)<|ai<|bR h I (fun h=>?_) (fun h=>?_)
 ·refine aj<|zo I (dd)<|ai<|ah<|J ?_;cases so h;exact aw I I
 ·refine dk<|aj<|zo I (aU pK lD I I)<|zo I (bf bp I I)<|zo I (aU sj oK I I)<|zo I (bf bp I I)<|zo I (aU si oJ I I)<|zo I (bf bp I I)<|zo I (aU rg nP I I)<|zo I (bf bp I I)<|zo I (fX (y:=(⟨m.Kind,m.From,m.To,m.Epoch,(0:Int),(0:Int),uZ,uO,(0:Int)⟩:cu)) lk Kk vk (⟨_,_,_,_,_,I,A6,I,(ht I),⟨_,_,_,_,_,I,A5,I,(ht I),⟨_,_,_,_,_,I,FB,I,(ht I),⟨_,_,_,_,_,I,A4,I,(ht I),I⟩⟩⟩⟩))<|bJ (r:=dN) (x:=Jw) lk (fun _=>vk _) I fun b=>aQ lk I aY I (ht I) (ht I)<|ai<|aa<|aj<|zo I (aU pK lD I I)<|zo I (bf bp I I)<|ai ?_;refine ak<|aj<|zo I (d6 I)<|aS I<|ai<|bR h I (fun h=>?_) (fun h=>?_)
  ·refine aj<|zo I (aU qo nO I I)<|zo I (bf bp I I)<|zo I (fe 5 qo I I I)<|aQ bp I Fz I (ht I) (ht I)<|ai<|aj<|zo I (aU rf oI I I)<|zo I (bf y0 I I)<|zo I (fe 6 rf I I I)<|aQ y0 I Fy I (ht I) (ht I)<|ai<|aj<|zo I (aU qo nO I I)<|zo I (bf bp I I)<|zo I (d8 (ht I) hI)<|av I<|bI I I (fun hg=>aU qo nO I I)<|bI I I (fun hg=>am bp I I (aA I hg)) ?_;refine bI I I (fun hg=>cH (aA I hg) hI)<|zo I (kh I I)<|av I<|bA h fun t q_t h=>bI I I (fun hg=>aU rf oI I I)<|bI I I (fun hg=>am y0 I I (aA I hg)) ?_
   obtain⟨r,h1t,h0t⟩:=og q_t
   have q_rg:=fun hb=>(h1t hb).1
   refine bI I I (fun hg=>aG VO (Rj _ (q_rg hg)) ⟨(aA I hg),aZ⟩)<|bI I I (fun hg=>dP (aA I hg))<|zo I (fF (ht I) (fun hb=>(aA I (oH hb))) (fun hb=>(h1t hb).2) h0t)<|ai<|bR h I (fun h=>?_) (fun h=>?_)
   ·refine aj<|zo I (dd)<|ai<|ah ?_;refine au (J ?_);refine aX ?_;cases so h;exact aw I I
   ·refine aP<|ac<|af<|aj<|zo rfl (br (x:=(cu.mk (⟨m.Kind,m.From,m.To,m.Epoch,(0:Int),(0:Int),uZ,uO,(0:Int)⟩:cu).Kind (⟨m.Kind,m.From,m.To,m.Epoch,(0:Int),(0:Int),uZ,uO,(0:Int)⟩:cu).From (⟨m.Kind,m.From,m.To,m.Epoch,(0:Int),(0:Int),uZ,uO,(0:Int)⟩:cu).To (⟨m.Kind,m.From,m.To,m.Epoch,(0:Int),(0:Int),uZ,uO,(0:Int)⟩:cu).Epoch (⟨m.Kind,m.From,m.To,m.Epoch,(0:Int),(0:Int),uZ,uO,(0:Int)⟩:cu).Frag m.Sites m.Plan (⟨m.Kind,m.From,m.To,m.Epoch,(0:Int),(0:Int),uZ,uO,(0:Int)⟩:cu).Packet (⟨m.Kind,m.From,m.To,m.Epoch,(0:Int),(0:Int),uZ,uO,(0:Int)⟩:cu).Err)) lk I I cA (.head _) (ht I))<|zo I (bf lk I I)<|bA h fun r1 q_r1 h=>zo I (aG MC (BK _ _ q_r1) ⟨(ht I),(ht I),aZ⟩)<|aS I<|ai<|ah<|aX ?_;cases so h;exact aw I I
  ·refine dj (Z:=fun x=>j6 m x=some R) (Of:=fun x=>[bx dN 34 b (⟨m.Kind,m.From,m.To,m.Epoch,(0:Int),(0:Int),uZ,uO,(0:Int)⟩:cu)]) (Gf:=fun x=>[(1,ce dN m),(3,tV (aL b 0)),(43,cb m.Kind),(66,fx x)]) (fun x h=>?_) (fun K=>?_)
   ·skip
    refine bR h I (fun h=>?_) (fun h=>?_)
    ·refine aP<|ac<|af<|aj<|zo rfl (br (x:=(⟨m.Kind,m.From,m.To,m.Epoch,(0:Int),(0:Int),uZ,uO,(0:Int)⟩:cu)) lk I I cA (.head _) (ht I))<|zo I (bf lk I I)<|bA h fun r2 q_r2 h=>zo I (aG MC (BK _ _ q_r2) ⟨(ht I),(ht I),aZ⟩)<|aS I<|ai<|ah<|aX ?_;cases so h;exact aw I I
    ·refine dj (Z:=fun x1=>py m x1=some R) (Of:=fun x1=>[bx dN 34 b (⟨m.Kind,m.From,m.To,m.Epoch,(0:Int),(0:Int),uZ,uO,(0:Int)⟩:cu)]) (Gf:=fun x1=>[(1,ce dN m),(3,tV (aL b 0)),(43,cb m.Kind),(70,fx x1)]) (fun x1 h=>?_) (fun K1=>?_)
     ·skip
      refine bR h I (fun h=>?_) (fun h=>?_)
      ·refine aj<|zo I (aU pJ mu I I)<|zo I (bf bp I I)<|zo I (fe 4 pJ I I I)<|aQ bp I FA I (ht I) (ht I)<|ai<|aj<|zo I (aU pI mt I I)<|zo I (bf xV I I)<|zo I (fe 7 pI I I I)<|aQ xV I Fx I (ht I) (ht I)<|ai<|aj<|zo I (dD)<|ai ?_;refine dj (Z:=fun kind=>nr m kind=some R) (Of:=fun kind=>[bx dN 34 b (cu.mk (⟨m.Kind,m.From,m.To,m.Epoch,(0:Int),(0:Int),uZ,uO,(0:Int)⟩:cu).Kind (⟨m.Kind,m.From,m.To,m.Epoch,(0:Int),(0:Int),uZ,uO,(0:Int)⟩:cu).From (⟨m.Kind,m.From,m.To,m.Epoch,(0:Int),(0:Int),uZ,uO,(0:Int)⟩:cu).To (⟨m.Kind,m.From,m.To,m.Epoch,(0:Int),(0:Int),uZ,uO,(0:Int)⟩:cu).Epoch m.Frag (⟨m.Kind,m.From,m.To,m.Epoch,(0:Int),(0:Int),uZ,uO,(0:Int)⟩:cu).Sites (⟨m.Kind,m.From,m.To,m.Epoch,(0:Int),(0:Int),uZ,uO,(0:Int)⟩:cu).Plan m.Packet (⟨m.Kind,m.From,m.To,m.Epoch,(0:Int),(0:Int),uZ,uO,(0:Int)⟩:cu).Err)]) (Gf:=fun kind=>[(1,ce dN m),(3,tV (aL b 0)),(4,cb kind)]) (fun kind h=>?_) (fun K2=>?_)
       ·skip
        refine aj<|zo I (aU pJ mu I I)<|zo I (bf bp I I)<|zo I (d8 (ht I) hI)<|av I<|bI I I (fun hg=>aU pJ mu I I)<|bI I I (fun hg=>am bp I I (aA I hg))<|bI I I (fun hg=>cH (aA I hg) hI)<|zo I (kh I I)<|av I<|bI I I (fun hg=>aU pI mt I I)<|bI I I (fun hg=>cK uB I kT I (aA I hg))<|bI I I (fun hg=>am bp I I (aA I hg))<|bI I I (fun hg=>cw I)<|bI I I (fun hg=>bM (aA I hg) (aA I hg))<|zo I (kh I I)<|av I<|bA h fun t1 q_t1 h=>bI I I (fun hg=>aU pI mt I I)<|bI I I (fun hg=>am xV I I (aA I hg)) ?_
        obtain⟨r3,h1t1,h0t1⟩:=og q_t1
        have q_r3g:=fun hb=>(h1t1 hb).1
        refine bI I I (fun hg=>aG Ve (QO _ (q_r3g hg)) ⟨(aA I hg),aZ⟩)<|bI I I (fun hg=>dP (aA I hg))<|zo I (fF (ht I) (fun hb=>(aA I (oH hb))) (fun hb=>(h1t1 hb).2) h0t1)<|ai<|bR h I (fun h=>?_) (fun h=>?_)
        ·refine aj<|zo I (dd)<|ai<|ah ?_;refine au (J ?_);refine aX ?_;cases so h;exact aw I I
        ·refine aP<|ac<|af<|aj<|zo rfl (br (x:=(cu.mk (⟨m.Kind,m.From,m.To,m.Epoch,(0:Int),(0:Int),uZ,uO,(0:Int)⟩:cu).Kind (⟨m.Kind,m.From,m.To,m.Epoch,(0:Int),(0:Int),uZ,uO,(0:Int)⟩:cu).From (⟨m.Kind,m.From,m.To,m.Epoch,(0:Int),(0:Int),uZ,uO,(0:Int)⟩:cu).To (⟨m.Kind,m.From,m.To,m.Epoch,(0:Int),(0:Int),uZ,uO,(0:Int)⟩:cu).Epoch m.Frag (⟨m.Kind,m.From,m.To,m.Epoch,(0:Int),(0:Int),uZ,uO,(0:Int)⟩:cu).Sites (⟨m.Kind,m.From,m.To,m.Epoch,(0:Int),(0:Int),uZ,uO,(0:Int)⟩:cu).Plan m.Packet (⟨m.Kind,m.From,m.To,m.Epoch,(0:Int),(0:Int),uZ,uO,(0:Int)⟩:cu).Err)) lk I I cA (.head _) (ht I))<|zo I (bf lk I I)<|bA h fun r4 q_r4 h=>zo I (aG MC (BK _ _ q_r4) ⟨(ht I),(ht I),aZ⟩)<|aS I<|ai<|ah<|aX ?_;cases so h;exact aw I I
       ·skip
        refine aj<|zo I (aU pK lD I I)<|zo I (bf bp I I)<|zo I (d6 I)<|ai<|bR h I (fun h=>?_) (fun h=>?_)
        ·refine ae<|zo I (dD)<|ay ?_;exact bD (K2 (2:Int) h) (aR I)
        ·refine aP ?_;exact bD (K2 (1:Int) h) (aR I)
      ·refine aj<|zo I (d6 I)<|aS I<|ai<|bR h I (fun h=>?_) (fun h=>?_)
       ·refine aj<|zo I (aU qn nN I I)<|zo I (bf yZ I I)<|zo I (fe 14 qn I I I)<|aQ yZ I Fw I (ht I) (ht I)<|ai<|aj<|zo I (aU qn nN I I)<|zo I (bf yZ I I)<|zo I (Aq I)<|av I<|aO I I (fun hg=>aU qn nN I I)<|aO I I (fun hg=>am yZ I I (aA I hg))<|aO I I (fun hg=>bM (aA I hg) hI)<|zo I (fV I I)<|ai<|bR h I (fun h=>?_) (fun h=>?_)
        ·refine aj<|zo I (dd)<|ai<|ah ?_;refine au (J ?_);refine aX ?_;cases so h;exact aw I I
        ·refine aP<|ac<|af<|aj<|zo rfl (br (x:=(cu.mk (⟨m.Kind,m.From,m.To,m.Epoch,(0:Int),(0:Int),uZ,uO,(0:Int)⟩:cu).Kind (⟨m.Kind,m.From,m.To,m.Epoch,(0:Int),(0:Int),uZ,uO,(0:Int)⟩:cu).From (⟨m.Kind,m.From,m.To,m.Epoch,(0:Int),(0:Int),uZ,uO,(0:Int)⟩:cu).To (⟨m.Kind,m.From,m.To,m.Epoch,(0:Int),(0:Int),uZ,uO,(0:Int)⟩:cu).Epoch (⟨m.Kind,m.From,m.To,m.Epoch,(0:Int),(0:Int),uZ,uO,(0:Int)⟩:cu).Frag (⟨m.Kind,m.From,m.To,m.Epoch,(0:Int),(0:Int),uZ,uO,(0:Int)⟩:cu).Sites (⟨m.Kind,m.From,m.To,m.Epoch,(0:Int),(0:Int),uZ,uO,(0:Int)⟩:cu).Plan (⟨m.Kind,m.From,m.To,m.Epoch,(0:Int),(0:Int),uZ,uO,(0:Int)⟩:cu).Packet m.Err)) lk I I cA (.head _) (ht I))<|zo I (bf lk I I)<|bA h fun r5 q_r5 h=>zo I (aG MC (BK _ _ q_r5) ⟨(ht I),(ht I),aZ⟩)<|aS I<|ai<|ah<|aX ?_;cases so h;exact aw I I
       ·refine aj<|zo I (dd)<|ai<|ah ?_;refine au (J ?_);refine aX ?_;cases so h;exact aw I I
     ·skip
      refine aj<|zo I (d6 I)<|aS I<|ai<|bR h I (fun h=>?_) (fun h=>?_)
      ·refine aP ?_;exact bD (K1 (m.Kind==(3:Int)) h) (aR I)
      ·refine ae<|zo I (d6 I)<|aS I<|ay ?_;exact bD (K1 (m.Kind==(4:Int)) h) (aR I)
   ·skip
    refine aj<|zo I (d6 I)<|aS I<|ai<|bR h I (fun h=>?_) (fun h=>?_)
    ·refine aP ?_;exact bD (K (m.Kind==(2:Int)) h) (aR I)
    ·refine aj<|zo I (d6 I)<|aS I<|ai<|bR h I (fun h=>?_) (fun h=>?_)
     ·refine aP ?_;exact bD (K (m.Kind==(6:Int)) h) (aR I)
     ·refine ae<|zo I (d6 I)<|aS I<|ay ?_;exact bD (K (m.Kind==(7:Int)) h) (aR I)

theorem Rr(m:cu){R:Bool}(h:qV m=some R):bk ba 16 [tD dN m] (fx R):=by
 refine bk.of Tryz.func16 I I I fun w0 S0=>aj<|zo I (kp I)<|zo I (dd)<|ai<|aj<|zo I (bf lk I I)<|bA h fun r q_r h=>zo I (aG VC (Ra _ q_r) ⟨(ht I),aZ⟩)<|av I<|bA h fun t q_t h=>aO I I (fun hg=>bf lk I I) ?_
 obtain⟨r1,h1t,h0t⟩:=og q_t
 have q_r1g:=fun hb=>(h1t hb).1
 refine aO I I (fun hg=>aG TT (Mm _ (q_r1g hg)) ⟨(aA I hg),aZ⟩)<|aO I I (fun hg=>bw gV (aA I hg))<|aO I I (fun hg=>dV (aA I hg) hI)<|zo I (bN (ht I) (fun hb=>(aA I hb)) (fun hb=>(h1t hb).2) h0t)<|aS I<|ai<|ah ?_;cases so h;exact aw I I

theorem S2(m:cu)(o:cu){R:Bool}(h:rb m o=some R):bk ba 3 [tD dN m,tD dN o] (fx R):=by
 refine bk.of Tryz.func3 I I I fun w0 S0=>aj<|zo I (kp I)<|zo I (kp I)<|zo I (dd)<|ai<|aa<|aj<|bA h fun r q_r h=>zo I (aG VS (RE q_r) trivial)<|zo I (dP (ht I))<|ai<|bR h I (fun h=>?_) (fun h=>?_)
 ·refine aj<|zo I (dd)<|ai<|ah<|J ?_;cases so h;exact aw I I
 ·refine dk<|aa<|aj<|zo I (bf lk I I)<|bA h fun r1 q_r1 h=>zo I (aG Uz (Ms _ q_r1) ⟨(ht I),aZ⟩)<|av I<|bA h fun t q_t h=>bI I I (fun hg=>bf lk I I) ?_
  obtain⟨r2,h1t,h0t⟩:=og q_t
  have q_r2g:=fun hb=>(h1t hb).1
  refine bI I I (fun hg=>aG Uz (Ms _ (q_r2g hg)) ⟨(aA I hg),aZ⟩)<|zo I (fF (ht I) (fun hb=>(aA I (oH hb))) (fun hb=>(h1t hb).2) h0t)<|ai<|bR h I (fun h=>?_) (fun h=>?_)
  ·refine aj<|zo I (dd)<|ai<|ah<|J ?_;cases so h;exact aw I I
  ·refine dk<|aj<|zo I (bf lk I I)<|bA h fun r3 q_r3 h=>zo I (aG RS (H1 _ q_r3) ⟨(ht I),aZ⟩)<|av I<|zo I (nj I I)<|zo I (nj I I)<|aS I<|aS I<|ai<|aj<|zo I (bf lk I I)<|bA h fun r4 q_r4 h=>zo I (aG VR (RA _ q_r4) ⟨(ht I),aZ⟩)<|aS I<|ai<|aa<|aa ?_;refine bA h fun r5 q_r5 h=>bA h fun r6 q_r6 h=>bA h fun t1 q_t1 h=>?_
   obtain⟨r7,h1t1,h0t1⟩:=og q_t1
   have q_r7g:=fun hb=>(h1t1 hb).1
   refine fq (ts:=[_,_,_,_,_,_,_,_,_,_,_,_,_]) mixed I I
    ⟨im 2 I I I (bf lk I I),
    ⟨im 3 I I I (bf lk I I),
    ⟨eF 23 0 24 1 I I I I (aG Kw (zm _ _ q_r5) ⟨(ht I),(ht I),aZ⟩),
    ⟨im 2 I I I (bf lk I I),
    ⟨im 3 I I I (bf lk I I),
    ⟨eF 26 3 27 4 I I I I (aG MC (BK _ _ q_r6) ⟨(ht I),(ht I),aZ⟩),
    ⟨eF 25 2 28 5 I I I I (Ee DF (ht I) (ht I)),
    ⟨dQ 29 6 I I I (cw I),
    ⟨p6 2 30 7 I I I I (gg I I I I (fun hg=>bf lk I I)),
    ⟨p6 2 30 7 I I I I (gg I I I I (fun hg=>bf lk I I)),
    ⟨xT 31 8 32 9 30 7 I I I I I (gg I I I I (fun hg=>aG Kw (zm _ _ (q_r7g hg)) ⟨(aA I hg),(aA I hg),aZ⟩)),
    ⟨iL 33 10 30 7 I I I I (gg I I I I (fun hg=>dP (aA I hg))),
    ⟨eF 30 7 34 11 I I I I (fF (ht I) (fun hb=>(aA I (oH hb))) (fun hb=>(h1t1 hb).2) h0t1),
    aZ⟩⟩⟩⟩⟩⟩⟩⟩⟩⟩⟩⟩⟩ ?_
   refine af<|bR h rfl (fun h=>?_) (fun h=>?_)
   ·refine aj<|zo I (dd)<|ai<|ah<|J ?_;cases so h;exact aw I I
   ·refine dk<|aa<|aj<|zo I (bf lk I I)<|bA h fun r8 q_r8 h=>zo I (aG VQ (Rr _ q_r8) ⟨(ht I),aZ⟩)<|zo I (dP (ht I))<|ai<|bR h I (fun h=>?_) (fun h=>?_)
    ·refine aj<|av I<|zo I (d5 gV I)<|zo I (d6 I)<|av I<|aO I I (fun hg=>cw I)<|aO I I (fun hg=>bz (aA I hg) hI)<|zo I (fV I I)<|av I<|aO I I (fun hg=>cw I)<|aO I I (fun hg=>bz (aA I hg) hI)<|zo I (fV I I)<|aS I<|ai<|ah<|J ?_;cases so h;exact aw I I
    ·refine dk<|aj<|av I<|zo I (d6 I)<|av I<|aO I I (fun hg=>cw I)<|aO I I (fun hg=>bz (aA I hg) hI)<|zo I (fV I I)<|av I<|bA h fun t2 q_t2 h=>aO I I (fun hg=>cw I)<|aO I I (fun hg=>bf lk I I) ?_
     obtain⟨r9,h1t2,h0t2⟩:=og q_t2
     have q_r9g:=fun hb=>(h1t2 hb).1
     refine aO I I (fun hg=>aG TT (Mm _ (q_r9g hg)) ⟨(aA I hg),aZ⟩) ?_
     obtain⟨r10,h1t2⟩:=UI (fun hb=>(h1t2 hb).2)
     have q_r10g:=fun hb=>(h1t2 hb).1
     refine aO I I (fun hg=>aG T4 (Mn _ _ (q_r10g hg)) ⟨(aA I hg),(aA I hg),aZ⟩)<|zo I (bN (ht I) (fun hb=>(aA I hb)) (fun hb=>(h1t2 hb).2) h0t2)<|aS I<|ai<|ah ?_;cases so h;exact aw I I

end Go.Proofs.YtdohlidddcgfjaaGreat

