/- dr of this claim: P14. -/
import Derived.Test.YtnmjbolollcokaaGreatDoorRdT
import Derived.Test.YtnmjbolollcokaaGreatDoorRdP13
set_option linter.all false
namespace Go.Proofs.YtnmjbolollcokaaGreatDoor
open Go
set_option maxRecDepth 100000

theorem Rc(v:df){R:Bool}(h:uL v=some R):bo bl 272 [tD eG v] (gq R):=by
 refine bo.of Tryz.func272 J J J fun w0 S0=>aw<|zo J (jt J)<|zo J (ez)<|au<|aw<|zo J (bm pt J J)<|bz h fun r q_r h=>zo J (aC Wk (Ra _ q_r) ⟨(ht J),aT⟩)<|aE J<|bX J J (fun hg=>bD rQ oK J J)<|bX J J (fun hg=>aI bA J J (aS J hg))<|bX J J (fun hg=>cF (aS J hg) hI)<|zo J (mI J J)<|bu J<|au<|ak ?_;cases so h;exact aF J J

theorem Rf(n:bq){R:Bool}(h:lN n=some R):bo bl 264 [tD bc n] (gq R):=by
 refine bo.of Tryz.func264 J J J fun w0 S0=>aw<|zo J (jt J)<|zo J (ez)<|au<|ac<|aw<|zo J (bD fV dd J J)<|zo J (bm bA J J)<|au<|ax<|aw<|zo J (iz J)<|bu J<|au<|cE h J (fun h=>?_) (fun h=>?_)
 ·refine aw<|zo J (bD tw mu J J)<|zo J (bm pt J J)<|bz h fun r q_r h=>zo J (aC Wm (Rc _ q_r) ⟨(ht J),aT⟩)<|aE J<|bX J J (fun hg=>bD j7 eQ J J)<|bX J J (fun hg=>aI bA J J (aS J hg))<|bX J J (fun hg=>cw (aS J hg) hI)<|zo J (mI J J)<|bu J<|au<|ak ?_;refine ay (M ?_);cases so h;exact aF J J
 ·refine aw<|zo J (iz J)<|bu J<|au<|cE h J (fun h=>?_) (fun h=>?_)
  ·refine aw<|zo J (bD tw mu J J)<|zo J (bm pt J J)<|zo J (cm (y:=CD) pt FW sa (J))<|zo J (Az F5 (ht J) (ht J))<|aE J<|bX J J (fun hg=>bD j7 eQ J J)<|bX J J (fun hg=>aI bA J J (aS J hg))<|bX J J (fun hg=>cU (aS J hg) hI)<|zo J (mI J J)<|aE J<|bX J J (fun hg=>bD j7 eQ J J)<|bX J J (fun hg=>aI bA J J (aS J hg))<|bX J J (fun hg=>eO (aS J hg) hI)<|zo J (mI J J)<|bu J<|au<|ak ?_;refine ay (M ?_);cases so h;exact aF J J
  ·refine bk<|an<|aq<|aw<|zo rfl (bD tw mu rfl rfl)<|zo rfl (bm pt rfl rfl)<|zo rfl (cm (y:=CD) pt FW sa (J))<|zo J (Az F5 (ht J) (ht J))<|aE J<|bX J J (fun hg=>bD j7 eQ J J)<|bX J J (fun hg=>aI bA J J (aS J hg))<|bX J J (fun hg=>cw (aS J hg) hI)<|zo J (mI J J)<|bu J<|au<|ak ?_;cases so h;exact aF J J

theorem Pp: ∀(fu:Nat) (e:bf) (place:Int) {R:Int} (h:i8 fu e place=some R),bo bl 251 [tD bn e,cb place] (cb R):=by
 intro fu
 induction fu with
 |zero=>intro e place R h;exact(nn h).elim
 |succ fu ih=>
  intro e place R h
  refine bo.of Tryz.func251 J J J fun w0 S0=>aw<|zo J (jt J)<|zo J (dB)<|au<|ac<|aw<|aE J<|zo J (eO (ht J) hI)<|aE J<|ci J J (fun hg=>cG J)<|ci J J (fun hg=>bD de bZ J J)<|ci J J (fun hg=>aI ir J J (aS J hg))<|ci J J (fun hg=>bU oo (aS J hg))<|ci J J (fun hg=>cU (aS J hg) (aS J hg))<|zo J (nW J J)<|au<|cE h J (fun h=>?_) (fun h=>?_)
  ·refine aw<|zo J (dB)<|au<|ak<|M ?_;cases so h;exact aF J J
  ·refine dz<|aw<|zo J (bD de bZ J J)<|zo J (bm ir J J)<|aE J<|bz h fun e1 q_e1 h=>zo J (iQ oo cR J J J q_e1)<|zo J (bm cR J J)<|bj (r:=bc) (x:=Dl) cR (fun _=>kZ _) J fun b=>ai cR J aj J (ht J) (ht J)<|bh 5 J<|au<|aw<|zo J (bD fV dd J J)<|zo J (bm bA J J)<|bz h fun r q_r h=>zo J (aC Wq (Rg _ q_r) ⟨(ht J),aT⟩)<|bu J<|au ?_;refine ac<|aw<|aE J<|zo J (eO (ht J) hI)<|aE J<|bz h fun t q_t h=>ci J J (fun hg=>bm cR J J) ?_
   obtain⟨r1,h1t,h0t⟩:=og q_t
   have q_r1g:=fun hb=>(h1t hb).1
   refine ci J J (fun hg=>aC Wp (Rf _ (q_r1g hg)) ⟨(aS J hg),aT⟩)<|ci J J (fun hg=>dh (aS J hg))<|zo J (dj (ht J) (fun hb=>(aS J (nZ hb))) (fun hb=>(h1t hb).2) h0t)<|au<|cE h J (fun h=>?_) (fun h=>?_)
   ·refine aw<|zo J (dB)<|au<|ak<|M ?_;cases so h;exact aF J J
   ·refine dz<|ac<|aw<|aE J<|zo J (iz J)<|au<|cE h J (fun h=>?_) (fun h=>?_)
    ·refine ac<|aw<|zo J (bD pe ko J J)<|zo J (bm bA J J)<|zo J (Gw J)<|aE J<|ci J J (fun hg=>bD n9 jC J J)<|ci J J (fun hg=>aI bA J J (aS J hg))<|ci J J (fun hg=>cF (aS J hg) hI)<|zo J (nW J J)<|au<|cE h J (fun h=>?_) (fun h=>?_)
     ·refine aw<|zo J (dB)<|au<|ak ?_;refine M (M ?_);cases so h;exact aF J J
     ·refine dz<|aw<|zo J (dB)<|au<|ak<|M ?_;cases so h;exact aF J J
    ·refine dz<|aw<|zo J (bm eN J J)<|aE J<|zo J (dL (ht J) hI)<|bz h fun r2 q_r2 h=>zo J (aC LU (ih _ _ q_r2) ⟨(ht J),(ht J),aT⟩)<|bu J<|au<|ac<|aw<|aE J<|zo J (iz J)<|au<|cE h J (fun h=>?_) (fun h=>?_)
     ·refine aw<|zo J (dB)<|au<|ak<|M ?_;cases so h;exact aF J J
     ·refine dz<|ac<|aw<|aE J<|zo J (iz J)<|au<|cE h J (fun h=>?_) (fun h=>?_)
      ·refine ac<|aw<|zo J (bD pe ko J J)<|zo J (bm bA J J)<|aE J<|zo J (dL (ht J) hI)<|zo J (cF (ht J) (ht J))<|aE J<|ci J J (fun hg=>bD n9 jC J J)<|ci J J (fun hg=>aI bA J J (aS J hg))<|ci J J (fun hg=>cF (aS J hg) hI)<|zo J (nW J J)<|au<|cE h J (fun h=>?_) (fun h=>?_)
       ·refine aw<|zo J (dB)<|au<|ak ?_;refine M (M ?_);cases so h;exact aF J J
       ·refine dz<|aw<|aE J<|zo J (ei (ht J) hI)<|bu J<|au<|ak<|M ?_;cases so h;exact aF J J
      ·refine dz<|aw<|zo J (bm eN J J)<|aE J<|zo J (dL (ht J) hI)<|aE J<|zo J (dL (ht J) (ht J))<|bz h fun r3 q_r3 h=>zo J (aC LU (ih _ _ q_r3) ⟨(ht J),(ht J),aT⟩)<|bu J<|au<|ac<|aw<|aE J<|zo J (iz J)<|aE J<|ci J J (fun hg=>bD n9 jC J J)<|ci J J (fun hg=>aI bA J J (aS J hg))<|ci J J (fun hg=>cG J)<|ci J J (fun hg=>dL (aS J hg) hI) ?_;refine ci J J (fun hg=>cF (aS J hg) (aS J hg))<|zo J (nW J J)<|aE J<|ci J J (fun hg=>bD pe ko J J)<|ci J J (fun hg=>aI bA J J (aS J hg))<|ci J J (fun hg=>cG J)<|ci J J (fun hg=>dL (aS J hg) hI)<|ci J J (fun hg=>cG J)<|ci J J (fun hg=>dL (aS J hg) (aS J hg))<|ci J J (fun hg=>cF (aS J hg) (aS J hg))<|zo J (nW J J)<|au<|cE h J (fun h=>?_) (fun h=>?_)
       ·refine aw<|zo J (dB)<|au<|ak<|M ?_;cases so h;exact aF J J
       ·refine dz<|aw<|aE J<|aE J<|zo J (ei (ht J) (ht J))<|zo J (ei (ht J) hI)<|bu J<|au<|ak ?_;cases so h;exact aF J J
theorem LB(e:bf)(place:Int){R:Int}(h:t6 e place=some R):bo bl 251 [tD bn e,cb place] (cb R):=Pp cZ e place h

theorem Rt(e:bf){R:Bool}(h:uI e=some R):bo bl 229 [tD bn e] (gq R):=by
 refine bo.of Tryz.func229 J J J fun w0 S0=>aw<|zo J (jt J)<|zo J (ez)<|au<|ac<|bz h fun t q_t h=>?_
 obtain⟨r,h1t,h0t⟩:=og q_t
 have q_rg:=fun hb=>(h1t hb).1
 refine eu (ts:=[_,_,_,_,_,_,_,_,_,_,_,_,_,_,_,_,_,_,_,_,_,_,_]) mixed J J
  ⟨ef 1 J J J (bD de bZ J J),
  ⟨cT 3 0 J J J (bm ir J J),
  ⟨cT 4 1 J J J (fW oo J),
  ⟨cT 5 2 J J J (cU (ht J) hI),
  ⟨cT 6 3 J J J (cG J),
  ⟨oj 1 7 4 J J J J (dn J J J J (fun hg=>bD de bZ J J)),
  ⟨gj 8 5 7 4 J J J J (dn J J J J (fun hg=>aI ir J J (aS J hg))),
  ⟨gj 9 6 7 4 J J J J (dn J J J J (fun hg=>bU oo (aS J hg))),
  ⟨gj 10 7 7 4 J J J J (dn J J J J (fun hg=>g9 (aS J hg) hI)),
  ⟨dG 7 4 11 8 J J J J (mI J J),
  ⟨cT 12 9 J J J (cG J),
  ⟨oj 1 13 10 J J J J (dn J J J J (fun hg=>bm eN J J)),
  ⟨oj 1 13 10 J J J J (dn J J J J (fun hg=>bD de bZ J J)),
  ⟨gj 15 12 13 10 J J J J (dn J J J J (fun hg=>aI ir J J (aS J hg))),
  ⟨gj 16 13 13 10 J J J J (dn J J J J (fun hg=>bU oo (aS J hg))),
  ⟨gj 17 14 13 10 J J J J (dn J J J J (fun hg=>dL (aS J hg) hI)),
  ⟨sd 14 11 18 15 13 10 J J J J J (dn J J J J (fun hg=>aC LU (LB _ _ (q_rg hg)) ⟨(aS J hg),(aS J hg),aT⟩)),
  ⟨oj 1 13 10 J J J J (dn J J J J (fun hg=>bD de bZ J J)),
  ⟨gj 20 17 13 10 J J J J (dn J J J J (fun hg=>aI ir J J (aS J hg))),
  ⟨gj 21 18 13 10 J J J J (dn J J J J (fun hg=>bU oo (aS J hg))),
  ⟨sd 19 16 22 19 13 10 J J J J J (dn J J J J (fun hg=>cw (aS J hg) (aS J hg))),
  ⟨dG 13 10 23 20 J J J J (cS (ht J) (fun hb=>(aS J hb)) (fun hb=>(h1t hb).2) h0t),
  ⟨cT 24 21 J J J (zm J),
  aT⟩⟩⟩⟩⟩⟩⟩⟩⟩⟩⟩⟩⟩⟩⟩⟩⟩⟩⟩⟩⟩⟩⟩ ?_
 refine aq<|ak ?_;cases so h;exact aF J J

theorem C8(k:Int)(want:Int){R:Bool}(h:pY k want=some R):bo bl 252 [cb k,cb want] (gq R):=by
 refine bo.of Tryz.func252 J J J fun w0 S0=>aw<|zo J (ez)<|au<|aw<|aE J<|aE J<|zo J (cw (ht J) (ht J))<|aE J<|ci J J (fun hg=>cG J)<|ci J J (fun hg=>cw (aS J hg) hI)<|zo J (nW J J)<|bu J<|au<|ak ?_;cases so h;exact aF J J

theorem Rs(tag:Int)(l:Int)(r:Int){R:Int×Bool}(h:re tag l r=some R):bo bl 230 [cb tag,cb l,cb r] (tT [cb R.1,gq R.2]):=by
 refine bo.of Tryz.func230 J J J fun w0 S0=>aw<|zo J (dB)<|zo J (ez)<|au<|ac<|ax<|aw<|aE J<|zo J (iz J)<|aE J<|ci J J (fun hg=>cG J)<|ci J J (fun hg=>cU (aS J hg) hI)<|ci J J (fun hg=>bQ (aS J hg))<|d3 J J J J (fun hg=>cG J)<|d3 J J J J (fun hg=>g9 (aS J hg) hI)<|ci J J (fun hg=>km (aS J hg) (fun hb=>(aS J (tF hg hb))))<|zo J (nW J J)<|bu J<|au ?_;refine cE h J (fun h=>?_) (fun h=>?_)
 ·refine aw<|aE J<|bz h fun r1 q_r1 h=>zo J (aC LT (C8 _ _ q_r1) ⟨(ht J),hI,aT⟩)<|aE J<|bz h fun t q_t h=>bX J J (fun hg=>cG J) ?_
  obtain⟨r2,h1t,h0t⟩:=og q_t
  have q_r2g:=fun hb=>(h1t hb).1
  refine bX J J (fun hg=>aC LT (C8 _ _ (q_r2g hg)) ⟨(aS J hg),hI,aT⟩)<|zo J (cS (ht J) (fun hb=>(aS J hb)) (fun hb=>(h1t hb).2) h0t)<|zo J (dB)<|bu J<|au<|ak ?_;refine ay (M ?_);cases so h;exact co J J J
 ·refine aw<|aE J<|zo J (iz J)<|aE J<|ci J J (fun hg=>cG J)<|ci J J (fun hg=>cU (aS J hg) hI)<|zo J (nW J J)<|bu J<|au<|cE h J (fun h=>?_) (fun h=>?_)
  ·refine aw<|aE J<|bz h fun r3 q_r3 h=>zo J (aC LT (C8 _ _ q_r3) ⟨(ht J),hI,aT⟩)<|aE J<|bz h fun t1 q_t1 h=>bX J J (fun hg=>cG J) ?_
   obtain⟨r4,h1t1,h0t1⟩:=og q_t1
   have q_r4g:=fun hb=>(h1t1 hb).1
   refine bX J J (fun hg=>aC LT (C8 _ _ (q_r4g hg)) ⟨(aS J hg),hI,aT⟩)<|zo J (cS (ht J) (fun hb=>(aS J hb)) (fun hb=>(h1t1 hb).2) h0t1)<|zo J (dB)<|bu J<|au<|ak ?_;refine ay (M ?_);cases so h;exact co J J J
  ·refine aw<|aE J<|zo J (iz J)<|aE J<|ci J J (fun hg=>cG J)<|ci J J (fun hg=>cw (aS J hg) hI)<|zo J (nW J J)<|bu J<|au<|cE h J (fun h=>?_) (fun h=>?_)
   ·refine aw<|zo J (dB)<|zo J (ez)<|au<|ak ?_;refine ay (M ?_);cases so h;exact co J J J
   ·refine bk<|an<|aq<|aw<|aE rfl<|aE rfl<|zo rfl (cw (ht rfl) (ht rfl))<|aE rfl<|ci rfl rfl (fun hg=>cG J)<|ci J J (fun hg=>cw (aS J hg) hI)<|zo J (nW J J)<|aE J<|ci J J (fun hg=>cG J)<|ci J J (fun hg=>cw (aS J hg) hI)<|zo J (nW J J)<|zo J (dB)<|bu J<|au<|ak ?_;cases so h;exact co J J J

theorem Hi(e:bf)(kinds:(List Int)){R:Int×Int}(h:ri e kinds=some R):bo bl 187 [tD bn e,dI kinds] (tT [cb R.1,cb R.2]):=by
 refine bo.of Tryz.func187 J J J fun w0 S0=>aw<|zo J (jt J)<|zo J (dB)<|zo J (dB)<|au<|ac<|aw<|zo J (bm eN J J)<|bz h fun r q_r h=>zo J (aC WH (Rt _ q_r) ⟨(ht J),aT⟩)<|zo J (dh (ht J))<|au<|cE h J (fun h=>?_) (fun h=>?_)
 ·refine aw<|zo J (dB)<|zo J (dB)<|au<|ak<|M ?_;cases so h;exact co J J J
 ·refine dz<|ac<|aw<|aE J<|zo J (fW dc J)<|zo J (bQ hI)<|au<|ax<|br (k:=20) J fun hN=>bB ?_;refine aP (em (Z:=fun ls i=>(kinds.drop i=ls)∧pB e kinds ls=some R) (Of:=fun _ i=>[]) (Gf:=fun _ i=>[(1,dI kinds),(2,bt bn e),(20,dI kinds),(21,jV kinds),(22,cb (i:Int))]) (fun i h=>?_) (fun e1 tl ih i h=>?_) kinds 0 ⟨J,h⟩) (bg J)
  ·obtain⟨hx,h⟩:=h
   refine aB<|aw<|zo J (ft J J)<|au<|ac<|bP (ht J) (dU hx)<|bp ?_;refine ae (ae (aK ?_));refine aq<|ac<|aw<|zo rfl (bD de bZ rfl rfl)<|zo rfl (bm ir rfl rfl)<|zo rfl (fW oo rfl)<|zo rfl (bQ hI)<|au<|ax<|br (k:=34) J fun hN1=>bB ?_;refine aP (em (Z:=fun ls1 i1=>(e.Nodes.drop i1=ls1)∧nP e kinds ls1=some R) (Of:=fun _ i1=>[]) (Gf:=fun _ i1=>[(1,dI kinds),(2,bt bn e),(34,fc (bc) e.Nodes),(35,jV e.Nodes),(36,cb (i1:Int))]) (fun i1 h=>?_) (fun e2 tl1 ih1 i1 h=>?_) e.Nodes 0 ⟨J,h⟩) (bg J)
   ·obtain⟨hx1,h⟩:=h
    refine aB<|aw<|zo J (ft J J)<|au<|ac<|bP (ht J) (dU hx1)<|bp ?_;refine ae (ae (aK ?_));refine aq<|aw<|cd false cx 3<|zo rfl (aU s6)<|au<|ac<|aw<|zo rfl (bD de bZ rfl rfl)<|zo rfl (bm ir rfl rfl)<|zo rfl (fW oo rfl)<|zo rfl (bQ hI)<|au<|ax<|br (k:=52) J fun hN2=>bB ?_;refine aP (lZ (Z:=fun ls2 i2 own l c=>(e.Nodes.drop i2=ls2)∧dv kinds ls2 own=some R) (Of:=fun _ i2 own l c=>[ga cx 3 l c own]) (Gf:=fun _ i2 own l c=>[(1,dI kinds),(10,oP l c own),(52,fc (bc) e.Nodes),(53,jV e.Nodes),(54,cb (i2:Int))]) (fun i2 own l c h=>?_) (fun e3 tl2 ih2 i2 own l c h=>?_) e.Nodes 0 oq none 0 ⟨J,h⟩) (bg J)
    ·obtain⟨hx2,h⟩:=h
     refine aB<|aw<|zo J (ft J J)<|au<|ac<|bP (ht J) (dU hx2)<|bp ?_;refine ae (ae (aK ?_));refine aq<|aw<|aE rfl<|aE rfl<|zo rfl (gQ dc (.head _) (ht rfl))<|zo rfl (dL (ht rfl) hI)<|bz h fun e4 q_e4 h=>zo J (cV dc bA (.head _) (ht J) (ht J) q_e4)<|zo J (gn (r:=cx) (i:=(IntKind.i64.wrap ((own.length:Int)-(1:Int)))) (foff:=0) bA J J aR J (.head _) q_e4 (ht J))<|bu J<|zo J (dB)<|au<|ak<|aL ?_;cases so h;exact co J J J
    ·obtain⟨hx2,h⟩:=h
     refine aB<|aw<|zo J (ft J J)<|au<|ac<|bO (ht J) (dN hx2)<|dz<|ac<|ax<|aw<|zo J (iQ oo cR J J J (dO hx2))<|zo J (bm cR J J)<|bj (r:=bc) (x:=Dl) cR (fun _=>kZ _) J fun b=>ai cR J aj J (ht J) (ht J)<|bh 12 J<|au<|ax<|aw ?_;refine zo J (bD fV dd J J)<|zo J (bm bA J J)<|zo J (iz J)<|bu J<|au<|cE h J (fun h=>?_) (fun h=>?_)
     ·refine am<|aE J<|zo J (bD tw mu J J)<|zo J (bD rQ oK J J)<|zo J (bm bA J J)<|zo J (aN (r:=cx) (ys:=[e3.Value.Kind]) (xs:=[.tmp 92]) dc bA J J J J J ⟨(ht J),aT⟩)<|bz h fun own1 q_own1 h=>cK bA J J J J dc J J (ht J) (ht J) q_own1 fun l1 c1=>bu J<|aJ<|an<|an<|aq<|am<|zo rfl (nh (dm hx2 hN2) rfl)<|aE rfl<|aJ ?_;exact be (aP (ih2 (i2+1) own1 l1 c1 ⟨dl hx2,h⟩) (bg J))
     ·refine aw<|zo J (bD fV dd J J)<|zo J (bm bA J J)<|zo J (iz J)<|bu J<|au<|cE h J (fun h=>?_) (fun h=>?_)
      ·refine am<|aE J<|aE J<|zo J (bD j7 eQ J J)<|zo J (bm bA J J)<|bz h fun e5 q_e5 h=>zo J (iQ dc bA J J J q_e5)<|zo J (bm bA J J)<|zo J (aN (r:=cx) (ys:=[e5]) (xs:=[.tmp 104]) dc bA J J J J J ⟨(ht J),aT⟩)<|bz h fun own2 q_own2 h=>cK bA J J J J dc J J (ht J) (ht J) q_own2 fun l2 c2=>bu J<|aJ<|an<|an<|aq<|am<|zo rfl (nh (dm hx2 hN2) rfl)<|aE rfl<|aJ ?_;exact be (aP (ih2 (i2+1) own2 l2 c2 ⟨dl hx2,h⟩) (bg J))
      ·refine aw<|aE J<|zo J (bD pe ko J J)<|zo J (bm bA J J)<|bz h fun e6 q_e6 h=>zo J (cV dc bA (.head _) (ht J) (ht J) q_e6)<|zo J (gn (r:=cx) (i:=e3.L) (foff:=0) bA J J aR J (.head _) q_e6 (ht J))<|bu J<|zo J (dB)<|au ?_;refine dD (Z:=fun r1=>pC (dv kinds tl2) e3 own e6 r1=some R) (Of:=fun r1=>[ga cx 3 l c own]) (Gf:=fun r1=>[(1,dI kinds),(10,oP l c own),(12,bt bc e3),(13,cb e6),(14,cb r1),(52,fc (bc) e.Nodes),(53,jV e.Nodes),(54,cb (i2:Int))]) (fun r1 h=>?_) (fun K=>?_)
       ·skip
        refine aw<|zo J (bD fV dd J J)<|zo J (bm bA J J)<|aE J<|aE J<|bz h fun r2 q_r2 h=>zo J (aC WG (Rs _ _ _ q_r2) ⟨(ht J),(ht J),(ht J),aT⟩)<|aE J<|zo J (kG J J)<|zo J (kG J J)<|bu J<|bu J<|au<|ac<|aw<|aE J<|zo J (dh (ht J))<|au<|cE h J (fun h=>?_) (fun h=>?_)
        ·refine aw<|zo J (dB)<|zo J (dB)<|au<|ak ?_;refine M (ay (ay (M (M (ay (M ?_))))));refine aL ?_;cases so h;exact co J J J
        ·refine dz<|am<|aE J<|aE J<|zo J (aN (r:=cx) (ys:=[r2.1]) (xs:=[.tmp 82]) dc bA J J J J J ⟨(ht J),aT⟩)<|bz h fun own3 q_own3 h=>cK bA J J J J dc J J (ht J) (ht J) q_own3 fun l3 c3=>bu J<|aJ<|an<|an<|aq<|am<|zo rfl (nh (dm hx2 hN2) rfl)<|aE rfl<|aJ ?_;exact be (aP (ih2 (i2+1) own3 l3 c3 ⟨dl hx2,h⟩) (bg J))
       ·skip
        refine aw<|zo J (bD n9 jC J J)<|zo J (bm bA J J)<|zo J (cU (ht J) hI)<|au<|cE h J (fun h=>?_) (fun h=>?_)
        ·refine am<|aE J<|zo J (bD n9 jC J J)<|zo J (bm bA J J)<|bz h fun e7 q_e7 h=>zo J (cV dc bA (.head _) (ht J) (ht J) q_e7)<|zo J (gn (r:=cx) (i:=e3.R) (foff:=0) bA J J aR J (.head _) q_e7 (ht J))<|bu J<|aJ ?_;exact bJ (K e7 h) (bg J)
        ·refine bk ?_;exact bJ (K (0:Int) h) (bg J)
   ·obtain⟨hx1,h⟩:=h
    refine aB<|aw<|zo J (ft J J)<|au<|ac<|bO (ht J) (dN hx1)<|dz<|ac<|ax<|aw<|zo J (iQ oo cR J J J (dO hx1))<|zo J (bm cR J J)<|bj (r:=bc) (x:=Dl) cR (fun _=>kZ _) J fun b1=>ai cR J aj J (ht J) (ht J)<|bh 9 J<|au<|aw<|zo J (bD fV dd J J) ?_;refine zo J (bm bA J J)<|zo J (iz J)<|aE J<|bX J J (fun hg=>bD j7 eQ J J)<|bX J J (fun hg=>aI bA J J (aS J hg))<|bX J J (fun hg=>cG J)<|bX J J (fun hg=>bU dc (aS J hg))<|bX J J (fun hg=>cU (aS J hg) (aS J hg))<|zo J (mI J J)<|au<|cE h J (fun h=>?_) (fun h=>?_)
    ·refine aw<|zo J (dB)<|zo J (dB)<|au<|ak ?_;refine ay (M (M (ay (M ?_))));cases so h;exact co J J J
    ·refine bk<|an<|aq<|am<|zo rfl (nh (dm hx1 hN1) rfl)<|aE rfl<|aJ ?_;exact be (aP (ih1 (i1+1) ⟨dl hx1,h⟩) (bg J))
  ·obtain⟨hx,h⟩:=h
   refine aB<|aw<|zo J (ft J J)<|au<|ac<|bO (ht J) (dN hx)<|dz<|ac<|ax<|aw<|zo J (iQ dc bA J J J (dO hx))<|zo J (bm bA J J)<|bu J<|au<|aw<|aE J<|zo J (eO (ht J) hI)<|aE J ?_;refine ci J J (fun hg=>cG J)<|ci J J (fun hg=>d5 (aS J hg) hI)<|zo J (nW J J)<|au<|cE h J (fun h=>?_) (fun h=>?_)
   ·refine aw<|zo J (dB)<|zo J (dB)<|au<|ak ?_;refine ay (M (M (ay (M ?_))));cases so h;exact co J J J
   ·refine bk<|an<|aq<|am<|zo rfl (nh (dm hx hN) rfl)<|aE rfl<|aJ ?_;exact be (aP (ih (i+1) ⟨dl hx,h⟩) (bg J))

theorem LH(e:bf)(kinds:(List Int)){R:Bool}(h:sq e kinds=some R):bo bl 185 [tD bn e,dI kinds] (gq R):=by
 refine bo.of Tryz.func185 J J J fun w0 S0=>aw<|zo J (jt J)<|zo J (ez)<|au<|aw<|zo J (bm eN J J)<|aE J<|bz h fun r q_r h=>zo J (aC PY (Hi _ _ q_r) ⟨(ht J),(ht J),aT⟩)<|aE J<|zo J (kG J J)<|zo J (kG J J)<|bu J<|bu J<|au<|aw<|aE J<|zo J (iz J) ?_;refine aE J<|bX J J (fun hg=>cG J)<|bX J J (fun hg=>cw (aS J hg) hI)<|bX J J (fun hg=>bQ (aS J hg))<|ee J J J J (fun hg=>cG J)<|ee J J J J (fun hg=>cw (aS J hg) hI)<|bX J J (fun hg=>ql (aS J hg) (fun hb=>(aS J (tF hg (nZ hb)))))<|zo J (mI J J)<|bu J<|au<|ak ?_;cases so h;exact aF J J

theorem RO(a1:ip)(kinds:(List Int)){R:Int×Bool}(h:lE a1 kinds=some R):bo bl 186 [tD dP a1,dI kinds] (tT [cb R.1,gq R.2]):=by
 refine bo.of Tryz.func186 J J J fun w0 S0=>aw<|zo J (jt J)<|zo J (dB)<|zo J (ez)<|au<|ac<|aw<|zo J (bD rt mX J J)<|zo J (bm bA J J)<|zo J (iz J)<|au<|cE h J (fun h=>?_) (fun h=>?_)
 ·refine ac ?_
  refine eu (ts:=[_,_,_,_,_,_,_]) mixed J J
   ⟨ef 2 J J J (bD wx qM J J),
   ⟨cT 11 0 J J J (bD de bZ J J),
   ⟨cT 12 1 J J J (bm ir J J),
   ⟨cT 13 2 J J J (fW oo J),
   ⟨cT 14 3 J J J (iz J),
   ⟨Vn J J (dB),
   ⟨cT 15 4 J J J (zm J),
   aT⟩⟩⟩⟩⟩⟩⟩ ?_
  refine aq<|ak<|M ?_;cases so h;exact co J J J
 ·refine dz<|aw<|zo J (bD wx qM J J)<|zo J (bm eN J J)<|aE J<|bz h fun r q_r h=>zo J (aC PY (Hi _ _ q_r) ⟨(ht J),(ht J),aT⟩)<|aE J<|zo J (kG J J)<|zo J (kG J J)<|bu J<|bu J<|au<|ac<|aw<|zo J (bD rt mX J J)<|zo J (bm bA J J)<|zo J (eO (ht J) hI)<|aE J<|ci J J (fun hg=>bD rt mX J J) ?_;refine ci J J (fun hg=>aI bA J J (aS J hg))<|ci J J (fun hg=>d5 (aS J hg) hI)<|zo J (nW J J)<|aE J<|ci J J (fun hg=>cG J)<|ci J J (fun hg=>cF (aS J hg) hI)<|zo J (nW J J)<|au<|cE h J (fun h=>?_) (fun h=>?_)
  ·refine aw<|zo J (dB)<|zo J (ez)<|au<|ak<|M ?_;cases so h;exact co J J J
  ·refine dz<|ac<|aw<|zo J (bD rt mX J J)<|zo J (bm bA J J)<|zo J (iz J)<|aE J<|bX J J (fun hg=>cG J)<|bX J J (fun hg=>cF (aS J hg) hI)<|zo J (mI J J)<|aE J<|bX J J (fun hg=>cG J)<|bX J J (fun hg=>cF (aS J hg) hI)<|zo J (mI J J)<|au<|cE h J (fun h=>?_) (fun h=>?_)
   ·refine aw<|zo J (dB)<|zo J (ez)<|au<|ak<|M ?_;cases so h;exact co J J J
   ·refine dz<|ac<|aw<|zo J (bD rt mX J J)<|zo J (bm bA J J)<|zo J (cU (ht J) hI)<|au<|cE h J (fun h=>?_) (fun h=>?_)
    ·refine aw<|aE J<|bu J<|zo J (ez)<|au<|ak<|M ?_;cases so h;exact co J J J
    ·refine dz<|aw<|zo J (dB)<|zo J (ez)<|au<|ak ?_;cases so h;exact co J J J

theorem R8(n:af)(a1:(List Int))(b:(List Int)){R:(List Int)×Bool}(h:cu n a1 b=some R):bo bl 116 [tD ah n,dI a1,dI b] (tT [dI R.1,gq R.2]):=by
 refine bo.of Tryz.func116 J J J fun w0 S0=>aw<|zo J (jt J)<|zo J (aU (show aZ _ _ _ mJ from jr))<|zo J (ez)<|au<|aw<|cd false cx 3<|zo J (aU s6)<|au<|aw<|zo J (ez)<|au<|ac<|aw<|zo J (bD lh eP J J)<|zo J (bm bA J J) ?_;refine au<|ax<|aw<|zo J (iz J)<|bu J<|au<|cE h J (fun h=>?_) (fun h=>?_)
 ·refine ac<|aw<|zo J (dB)<|au<|ax<|bB<|mH ?_;refine aP (De (Z:=fun n1 ok i=>fT n n1 ok i=some R) (Of:=fun ok i=>[]) (Gf:=fun ok i=>[(3,bt ah n),(9,gq ok),(10,cb i)]) (fun ok i h=>nn h) (fun n1 ih ok i h=>?_) cZ true (0:Int) h) (bg J);refine aB<|ac<|aw<|aE J<|zo J (bD ly fq J J)<|zo J (bm cD J J)<|zo J (fW dc J)<|zo J (ft J J)<|au<|cE h J (fun h=>?_) (fun h=>?_)
  ·refine dz<|ac<|ax<|am<|aE J<|aE J<|bz h fun t q_t h=>bX J J (fun hg=>bD ly fq J J)<|bX J J (fun hg=>aI cD J J (aS J hg))<|bX J J (fun hg=>cG J) ?_
   obtain⟨e,h1t,h0t⟩:=og q_t
   have q_eg:=fun hb=>(h1t hb).1
   refine bX J J (fun hg=>aQ dc bA J (aS J hg) (aS J hg) (q_eg hg))<|bX J J (fun hg=>aI bA J J (aS J hg))<|bX J J (fun hg=>cU (aS J hg) hI)<|zo J (cS (ht J) (fun hb=>(aS J hb)) (fun hb=>(h1t hb).2) h0t)<|aE J<|bz h fun t1 q_t1 h=>bX J J (fun hg=>bD ly fq J J)<|bX J J (fun hg=>aI cD J J (aS J hg))<|bX J J (fun hg=>cG J) ?_
   obtain⟨e1,h1t1,h0t1⟩:=og q_t1
   have q_e1g:=fun hb=>(h1t1 hb).1
   refine bX J J (fun hg=>aQ dc bA J (aS J hg) (aS J hg) (q_e1g hg))<|bX J J (fun hg=>aI bA J J (aS J hg))<|bX J J (fun hg=>g9 (aS J hg) hI)<|zo J (cS (ht J) (fun hb=>(aS J hb)) (fun hb=>(h1t1 hb).2) h0t1)<|bu J<|aJ<|an<|aq<|am<|aE rfl<|zo rfl (ei (ht rfl) hI)<|bu rfl<|aJ ?_;exact be (aP (ih t1 (IntKind.i64.wrap (i+(1:Int))) h) (bg J))
  ·refine bp ?_;refine ae (ae (aK ?_));refine aq<|ac ?_
   refine eu (ts:=[_,_,_,_,_,_,_,_,_,_,_,_,_,_,_,_,_,_,_,_,_,_,_,_,_,_,_]) mixed J J
    ⟨ef 3 J J J (bD ly fq J J),
    ⟨cT 49 0 J J J (bm cD J J),
    ⟨ef 9 J J J (cG J),
    ⟨cT 51 2 J J J (cG J),
    ⟨oj 3 52 3 J J J J (dn J J J J (fun hg=>bD oL hZ J J)),
    ⟨gj 53 4 52 3 J J J J (dn J J J J (fun hg=>aI bA J J (aS J hg))),
    ⟨gj 54 5 52 3 J J J J (dn J J J J (fun hg=>cU (aS J hg) hI)),
    ⟨dG 52 3 55 6 J J J J (mI J J),
    ⟨cT 56 7 J J J (cG J),
    ⟨oj 3 57 8 J J J J (dn J J J J (fun hg=>bD oL hZ J J)),
    ⟨gj 58 9 57 8 J J J J (dn J J J J (fun hg=>aI bA J J (aS J hg))),
    ⟨gj 59 10 57 8 J J J J (dn J J J J (fun hg=>g9 (aS J hg) hI)),
    ⟨dG 57 8 60 11 J J J J (mI J J),
    ⟨cT 61 12 J J J (cG J),
    ⟨oj 3 62 13 J J J J (dn J J J J (fun hg=>bD ly fq J J)),
    ⟨gj 63 14 62 13 J J J J (dn J J J J (fun hg=>aI cD J J (aS J hg))),
    ⟨gj 64 15 62 13 J J J J (dn J J J J (fun hg=>bU dc (aS J hg))),
    ⟨gj 65 16 62 13 J J J J (dn J J J J (fun hg=>cU (aS J hg) hI)),
    ⟨dG 62 13 66 17 J J J J (mI J J),
    ⟨cT 67 18 J J J (cG J),
    ⟨oj 3 68 19 J J J J (dn J J J J (fun hg=>bD ly fq J J)),
    ⟨gj 69 20 68 19 J J J J (dn J J J J (fun hg=>aI cD J J (aS J hg))),
    ⟨gj 70 21 68 19 J J J J (dn J J J J (fun hg=>bU dc (aS J hg))),
    ⟨gj 71 22 68 19 J J J J (dn J J J J (fun hg=>g9 (aS J hg) hI)),
    ⟨dG 68 19 72 23 J J J J (mI J J),
    ⟨cT 50 1 J J J (zm J),
    ⟨cT 73 24 J J J (zm J),
    aT⟩⟩⟩⟩⟩⟩⟩⟩⟩⟩⟩⟩⟩⟩⟩⟩⟩⟩⟩⟩⟩⟩⟩⟩⟩⟩⟩ ?_
   refine aq<|ak ?_;refine ay (M ?_);cases so h;exact co J J J
 ·refine aw<|zo J (iz J)<|bu J<|au<|cE h J (fun h=>?_) (fun h=>?_)
  ·refine aw<|aE J<|aE J<|bz h fun l q_l h=>cK bA J J J J dc J J (ht J) (ht J) q_l fun l1 c=>aE J<|bz h fun out q_out h=>cK bA J J J J dc J J (ht J) (ht J) q_out fun l2 c1=>bu J<|au<|aw<|aE J<|zo J (bD p7 jB J J)<|zo J (bm eN J J)<|aE J<|m8<|lk 80 J<|lk 8 J<|lk 81 J<|lk 84 J<|bz h fun r q_r h=>?_;refine zo J (aC ST (LH _ _ q_r) ⟨(ht J),(kT (ht J)),aT⟩)<|bu J<|bu J<|au<|ak ?_;refine ay (M ?_);refine ik 6 J<|aL ?_;cases so h;exact co J J J
  ·refine aw<|zo J (iz J)<|bu J<|au<|cE h J (fun h=>?_) (fun h=>?_)
   ·refine aw<|aE J<|zo J (bD p7 jB J J)<|zo J (bm eN J J)<|aE J<|bz h fun r1 q_r1 h=>zo J (aC ST (LH _ _ q_r1) ⟨(ht J),(ht J),aT⟩)<|bu J<|bu J<|au<|ak ?_;refine ay (M ?_);refine aL ?_;cases so h;exact co J J J
   ·refine aw<|zo J (iz J)<|bu J<|au<|cE h J (fun h=>?_) (fun h=>?_)
    ·refine ac<|aw<|zo J (dB)<|au<|ax<|bB ?_;refine aP (tH (Z:=fun n2 cv l3 c2 i1=>dY n a1 n2 cv i1=some R) (Of:=fun cv l3 c2 i1=>[ga cx 3 l3 c2 cv]) (Gf:=fun cv l3 c2 i1=>[(1,dI a1),(3,bt ah n),(8,oP l3 c2 cv),(9,gq true),(11,cb i1)]) (fun cv l3 c2 i1 h=>nn h) (fun n2 ih1 cv l3 c2 i1 h=>?_) cZ oq none 0 (0:Int) h) (bg J);refine aB<|ac<|aw<|aE J<|zo J (bD jP d8 J J)<|zo J (bm cD J J)<|zo J (fW dc J)<|zo J (ft J J)<|au<|cE h J (fun h=>?_) (fun h=>?_)
     ·refine dz<|ac<|ax<|ac<|aw<|zo J (bD jP d8 J J)<|zo J (bm cD J J)<|aE J<|bz h fun e2 q_e2 h=>zo J (iQ dc bA J J J q_e2)<|zo J (bm bA J J)<|zo J (eO (ht J) hI)<|aE J<|ci J J (fun hg=>bD jP d8 J J)<|ci J J (fun hg=>aI cD J J (aS J hg))<|ci J J (fun hg=>cG J)<|ci J J (fun hg=>aQ dc bA J (aS J hg) (aS J hg) q_e2)<|ci J J (fun hg=>aI bA J J (aS J hg))<|ci J J (fun hg=>cG J)<|ci J J (fun hg=>bU dc (aS J hg))<|ci J J (fun hg=>cU (aS J hg) (aS J hg))<|zo J (nW J J) ?_;refine au<|cE h J (fun h=>?_) (fun h=>?_)
      ·refine aw<|zo J (aU (show aZ _ _ _ mJ from jr))<|zo J (ez)<|au<|ak ?_;refine M (ay (M (M (ay (M (ay (M ?_)))))));refine aL ?_;cases so h;exact co J J J
      ·refine dz<|am<|aE J<|aE J<|zo J (bD jP d8 J J)<|zo J (bm cD J J)<|aE J<|zo J (iQ dc bA J J J q_e2)<|zo J (bm bA J J)<|bz h fun e3 q_e3 h=>zo J (iQ dc bA J J J q_e3)<|zo J (bm bA J J)<|zo J (aN (r:=cx) (ys:=[e3]) (xs:=[.tmp 126]) dc bA J J J J J ⟨(ht J),aT⟩)<|bz h fun sT q_out2 h=>cK bA J J J J dc J J (ht J) (ht J) q_out2 fun l4 c3=>bu J<|aJ<|an<|aq<|am<|aE rfl<|zo rfl (ei (ht rfl) hI)<|bu rfl ?_;refine aJ ?_;exact be (aP (ih1 sT l4 c3 (IntKind.i64.wrap (i1+(1:Int))) h) (bg J))
     ·refine bp ?_;refine ae (ae (aK ?_));refine aq<|ac<|aw<|zo rfl (dB)<|au<|ax<|bB ?_;refine aP (HA (Z:=fun n3 out3 l5 c4 ok1 i2=>dK n a1 n3 out3 ok1 i2=some R) (Of:=fun out3 l5 c4 ok1 i2=>[ga cx 3 l5 c4 out3]) (Gf:=fun out3 l5 c4 ok1 i2=>[(1,dI a1),(3,bt ah n),(8,oP l5 c4 out3),(9,gq ok1),(12,cb i2)]) (fun out3 l5 c4 ok1 i2 h=>nn h) (fun n3 ih2 out3 l5 c4 ok1 i2 h=>?_) cZ cv l3 c2 true (0:Int) h) (bg J);refine aB<|ac<|aw<|aE J<|zo J (bD io ek J J)<|zo J (bm pr J J)<|zo J (fW nC J)<|zo J (ft J J)<|au<|cE h J (fun h=>?_) (fun h=>?_)
      ·refine dz<|ac<|ax<|aw<|zo J (bD io ek J J)<|zo J (bm pr J J)<|aE J<|bz h fun e4 q_e4 h=>zo J (iQ nC nX J J J q_e4)<|zo J (bm nX J J)<|aE J<|bz h fun r2 q_r2 h=>zo J (aC Xb (RO _ _ q_r2) ⟨(ht J),(ht J),aT⟩)<|aE J<|zo J (kG J J)<|zo J (kG J J)<|bu J<|bu J<|au<|aw ?_;refine aE J<|aE J<|zo J (aN (r:=cx) (ys:=[r2.1]) (xs:=[.tmp 147]) dc bA J J J J J ⟨(ht J),aT⟩)<|bz h fun out4 q_out4 h=>cK bA J J J J dc J J (ht J) (ht J) q_out4 fun l6 c5=>bu J<|au<|am<|aE J<|aE J<|bX J J (fun hg=>cG J)<|zo J (mI J J)<|bu J<|aJ<|an<|aq<|am<|aE rfl<|zo rfl (ei (ht rfl) hI)<|bu rfl<|aJ ?_;exact be (aP (ih2 out4 l6 c5 (ok1&&r2.2) (IntKind.i64.wrap (i2+(1:Int))) h) (bg J))
      ·refine bp ?_;refine ae (ae (aK ?_));refine aq<|aw<|aE rfl<|aE rfl<|aE rfl<|bX rfl rfl (fun hg=>bD jP d8 J J)<|bX J J (fun hg=>aI cD J J (aS J hg))<|bX J J (fun hg=>bU dc (aS J hg))<|bX J J (fun hg=>g9 (aS J hg) hI)<|zo J (mI J J)<|aE J<|bX J J (fun hg=>bD io ek J J)<|bX J J (fun hg=>aI pr J J (aS J hg))<|bX J J (fun hg=>bU nC (aS J hg))<|bX J J (fun hg=>g9 (aS J hg) hI)<|zo J (mI J J)<|aE J<|bX J J (fun hg=>cG J)<|bX J J (fun hg=>gQ dc (.head _) (aS J hg))<|bX J J (fun hg=>d5 (aS J hg) hI)<|zo J (mI J J)<|bu J<|bu J ?_;refine au<|ak ?_;refine ay (M ?_);refine gV<|cC 8 J<|cC 154 J<|cC 6 J<|ik 6 J<|aL ?_;cases so h;exact co J J J
    ·refine aw<|zo J (iz J)<|bu J<|au<|cE h J (fun h=>?_) (fun h=>?_)
     ·refine ac<|aw<|zo J (dB)<|au<|ax<|bB ?_;refine aP (HA (Z:=fun n4 out5 l7 c6 ok2 i3=>fi n a1 n4 out5 ok2 i3=some R) (Of:=fun out5 l7 c6 ok2 i3=>[ga cx 3 l7 c6 out5]) (Gf:=fun out5 l7 c6 ok2 i3=>[(1,dI a1),(3,bt ah n),(8,oP l7 c6 out5),(9,gq ok2),(15,cb i3)]) (fun out5 l7 c6 ok2 i3 h=>nn h) (fun n4 ih3 out5 l7 c6 ok2 i3 h=>?_) cZ oq none 0 true (0:Int) h) (bg J);refine aB<|ac<|aw<|aE J<|zo J (bD lg fN J J)<|zo J (bm te J J)<|zo J (fW nc J)<|zo J (ft J J)<|au<|cE h J (fun h=>?_) (fun h=>?_)
      ·refine dz<|ac<|ax<|aw<|zo J (bD lg fN J J)<|zo J (bm te J J)<|aE J<|bz h fun e5 q_e5 h=>zo J (iQ nc eN J J J q_e5)<|zo J (bm eN J J)<|aE J<|bz h fun r3 q_r3 h=>zo J (aC PY (Hi _ _ q_r3) ⟨(ht J),(ht J),aT⟩)<|aE J<|zo J (kG J J)<|zo J (kG J J)<|bu J<|bu J<|au<|aw ?_;refine aE J<|aE J<|zo J (aN (r:=cx) (ys:=[r3.1]) (xs:=[.tmp 193]) dc bA J J J J J ⟨(ht J),aT⟩)<|bz h fun out6 q_out6 h=>cK bA J J J J dc J J (ht J) (ht J) q_out6 fun l8 c7=>bu J<|au<|am<|aE J<|aE J<|bX J J (fun hg=>cG J)<|bX J J (fun hg=>cw (aS J hg) hI)<|zo J (mI J J)<|bu J<|aJ<|an<|aq<|am<|aE rfl<|zo rfl (ei (ht rfl) hI)<|bu rfl<|aJ ?_;exact be (aP (ih3 out6 l8 c7 (ok2&&(r3.2==(0:Int))) (IntKind.i64.wrap (i3+(1:Int))) h) (bg J))
      ·refine bp ?_;refine ae (ae (aK ?_));refine aq<|aw<|aE rfl<|aE rfl<|aE rfl<|bX rfl rfl (fun hg=>cG J)<|bX J J (fun hg=>gQ dc (.head _) (aS J hg))<|bX J J (fun hg=>cU (aS J hg) hI)<|zo J (mI J J)<|aE J<|bX J J (fun hg=>cG J)<|bX J J (fun hg=>gQ dc (.head _) (aS J hg))<|bX J J (fun hg=>g9 (aS J hg) hI)<|zo J (mI J J)<|bu J<|bu J<|au<|ak ?_;refine ay (M ?_);refine gV<|cC 8 J<|cC 201 J<|cC 6 J<|ik 6 J<|aL ?_;cases so h;exact co J J J
     ·refine aw<|zo J (iz J)<|bu J<|au<|cE h J (fun h=>?_) (fun h=>?_)
      ·refine aw<|aE J<|bu J<|zo J (ez)<|au<|ak ?_;refine ay (M ?_);refine aL ?_;cases so h;exact co J J J
      ·refine aw<|zo J (iz J)<|bu J<|au<|cE h J (fun h=>?_) (fun h=>?_)
       ·refine ac<|aw<|aE J<|zo J (fW dc J)<|aE J<|zo J (fW dc J)<|zo J (cF (ht J) (ht J))<|au<|cE h J (fun h=>?_) (fun h=>?_)
        ·refine aw<|zo J (aU (show aZ _ _ _ mJ from jr))<|zo J (ez)<|au<|ak ?_;refine M (ay (M ?_));refine aL ?_;cases so h;exact co J J J
        ·refine dz<|ac<|aw<|zo J (dB)<|au<|ax<|br (k:=1) J fun hN=>bB ?_;refine aP (vL (Z:=fun ls i4 out7 l9 c8 ok3=>(a1.drop i4=ls)∧i7 b ls i4 out7 ok3=some R) (Of:=fun _ i4 out7 l9 c8 ok3=>[ga cx 3 l9 c8 out7]) (Gf:=fun _ i4 out7 l9 c8 ok3=>[(1,dI a1),(2,dI b),(8,oP l9 c8 out7),(9,gq ok3),(18,cb (i4:Int))]) (fun i4 out7 l9 c8 ok3 h=>?_) (fun e6 tl ih4 i4 out7 l9 c8 ok3 h=>?_) a1 0 oq none 0 true ⟨J,h⟩) (bg J)
         ·obtain⟨hx,h⟩:=h
          refine aB<|ac<|aw<|aE J<|aE J<|zo J (fW dc J)<|zo J (ft J J)<|au<|bP (ht J) (dU hx)<|bp ?_;refine ae (ae (aK ?_));refine aq<|aw<|aE rfl<|aE rfl<|bu rfl<|bu rfl<|au<|ak ?_;refine ay (M ?_);refine gV<|cC 8 J<|cC 259 J<|cC 6 J<|ik 6 J<|aL ?_;cases so h;exact co J J J
         ·obtain⟨hx,h⟩:=h
          refine aB<|ac<|aw<|aE J<|aE J<|zo J (fW dc J)<|zo J (ft J J)<|au<|bO (ht J) (dN hx)<|dz<|ac<|ax<|aw<|aE J<|aE J<|zo J (iQ dc bA J J J (dO hx))<|zo J (bm bA J J)<|bu J<|au ?_;refine dD (Z:=fun k=>oC b (i7 b tl) i4 out7 ok3 k=some R) (Of:=fun k=>[ga cx 3 l9 c8 out7]) (Gf:=fun k=>[(1,dI a1),(2,dI b),(8,oP l9 c8 out7),(9,gq ok3),(18,cb (i4:Int)),(19,cb k)]) (fun k h=>?_) (fun K=>?_)
          ·skip
           refine aw<|aE J<|aE J<|zo J (aN (r:=cx) (ys:=[k]) (xs:=[.tmp 240]) dc bA J J J J J ⟨(ht J),aT⟩)<|bz h fun out8 q_out8 h=>cK bA J J J J dc J J (ht J) (ht J) q_out8 fun l10 c9=>bu J<|au<|am<|aE J<|aE J<|bz h fun t2 q_t2 h=>bX J J (fun hg=>cG J)<|bX J J (fun hg=>cG J) ?_
           obtain⟨e7,h1t2,h0t2⟩:=og q_t2
           have q_e7g:=fun hb=>(h1t2 hb).1
           refine bX J J (fun hg=>aQ dc bA J (aS J hg) (aS J hg) (q_e7g hg))<|bX J J (fun hg=>aI bA J J (aS J hg))<|bX J J (fun hg=>cG J)<|bX J J (fun hg=>cw (aS J hg) (aS J hg))<|bX J J (fun hg=>bQ (aS J hg)) ?_
           obtain⟨t3,h1t2⟩:=OR (fun hb=>(h1t2 hb).2)
           have q_t3g:=fun hb=>(h1t2 hb).1
           refine ee J J J J (fun hg=>cG J)<|ee J J J J (fun hg=>cG J) ?_
           obtain⟨e8,h1t3,h0t3⟩:=X7 q_t3g
           have q_e8g:=fun hb=>(h1t3 hb).1
           refine ee J J J J (fun hg=>aQ dc bA J (aS J hg) (aS J hg) (q_e8g hg))<|ee J J J J (fun hg=>aI bA J J (aS J hg))<|ee J J J J (fun hg=>cw (aS J hg) hI)<|bX J J (fun hg=>dj (aS J hg) (fun hb=>(aS J (tF hg (nZ hb)))) (fun hb=>(h1t3 (tF hg hb)).2) (fun hb=>h0t3 hg hb))<|zo J (cS (ht J) (fun hb=>(aS J hb)) (fun hb=>(h1t2 hb).2) h0t2)<|bu J<|aJ<|an<|aq<|am<|aE rfl<|zo rfl (nh (dm hx hN) rfl)<|bu rfl<|aJ ?_;exact be (aP (ih4 (i4+1) out8 l10 c9 t2 ⟨dl hx,h⟩) (bg J))
          ·skip
           refine aw<|aE J<|zo J (iz J)<|au<|cE h J (fun h=>?_) (fun h=>?_)
           ·refine am<|aE J<|aE J<|bz h fun e9 q_e9 h=>zo J (iQ dc bA J J J q_e9)<|zo J (bm bA J J)<|bu J<|aJ ?_;exact bJ (K e9 h) (bg J)
           ·refine bk ?_;exact bJ (K e6 h) (bg J)
       ·refine bk<|an<|aq<|ac<|aw<|zo rfl (dB)<|au<|ax<|bB<|mH ?_;refine aP (De (Z:=fun n5 ok4 i5=>fS n a1 n5 ok4 i5=some R) (Of:=fun ok4 i5=>[]) (Gf:=fun ok4 i5=>[(1,dI a1),(3,bt ah n),(9,gq ok4),(20,cb i5)]) (fun ok4 i5 h=>nn h) (fun n5 ih5 ok4 i5 h=>?_) cZ true (0:Int) h) (bg J);refine aB<|ac<|aw<|aE J<|zo J (bD lX gD J J)<|zo J (bm xh J J)<|zo J (fW vS J)<|zo J (ft J J)<|au<|cE h J (fun h=>?_) (fun h=>?_)
        ·refine dz<|ac<|ax<|am<|aE J<|aE J<|bz h fun t4 q_t4 h=>bX J J (fun hg=>bD lX gD J J)<|bX J J (fun hg=>aI xh J J (aS J hg))<|bX J J (fun hg=>cG J) ?_
         obtain⟨e10,h1t4,h0t4⟩:=og q_t4
         have q_e10g:=fun hb=>(h1t4 hb).1
         refine bX J J (fun hg=>aQ vS yV J (aS J hg) (aS J hg) (q_e10g hg))<|bX J J (fun hg=>d6 C5 J xN J (aS J hg))<|bX J J (fun hg=>aI bA J J (aS J hg))<|bX J J (fun hg=>cU (aS J hg) hI)<|zo J (cS (ht J) (fun hb=>(aS J hb)) (fun hb=>(h1t4 hb).2) h0t4)<|aE J<|bz h fun t5 q_t5 h=>bX J J (fun hg=>bD lX gD J J)<|bX J J (fun hg=>aI xh J J (aS J hg))<|bX J J (fun hg=>cG J) ?_
         obtain⟨e11,h1t5,h0t5⟩:=og q_t5
         have q_e11g:=fun hb=>(h1t5 hb).1
         refine bX J J (fun hg=>aQ vS yV J (aS J hg) (aS J hg) (q_e11g hg))<|bX J J (fun hg=>d6 C5 J xN J (aS J hg))<|bX J J (fun hg=>aI bA J J (aS J hg))<|bX J J (fun hg=>cG J)<|bX J J (fun hg=>bU dc (aS J hg))<|bX J J (fun hg=>eO (aS J hg) (aS J hg))<|zo J (cS (ht J) (fun hb=>(aS J hb)) (fun hb=>(h1t5 hb).2) h0t5)<|bu J<|aJ<|an<|aq<|am<|aE rfl<|zo rfl (ei (ht rfl) hI)<|bu rfl<|aJ ?_;exact be (aP (ih5 t5 (IntKind.i64.wrap (i5+(1:Int))) h) (bg J))
        ·refine bp ?_;refine ae (ae (aK ?_));refine aq<|ac ?_
         refine eu (ts:=[_,_,_,_,_,_,_,_,_,_,_,_,_,_,_,_,_,_,_,_]) mixed J J
          ⟨ef 1 J J J (cG J),
          ⟨ef 9 J J J (cG J),
          ⟨cT 290 1 J J J (cG J),
          ⟨oj 3 291 2 J J J J (dn J J J J (fun hg=>bD lX gD J J)),
          ⟨gj 292 3 291 2 J J J J (dn J J J J (fun hg=>aI xh J J (aS J hg))),
          ⟨gj 293 4 291 2 J J J J (dn J J J J (fun hg=>bU vS (aS J hg))),
          ⟨gj 294 5 291 2 J J J J (dn J J J J (fun hg=>g9 (aS J hg) hI)),
          ⟨dG 291 2 295 6 J J J J (mI J J),
          ⟨cT 296 7 J J J (cG J),
          ⟨oj 3 297 8 J J J J (dn J J J J (fun hg=>bD tu ne J J)),
          ⟨gj 298 9 297 8 J J J J (dn J J J J (fun hg=>aI bA J J (aS J hg))),
          ⟨gj 299 10 297 8 J J J J (dn J J J J (fun hg=>cU (aS J hg) hI)),
          ⟨dG 297 8 300 11 J J J J (mI J J),
          ⟨cT 301 12 J J J (cG J),
          ⟨oj 3 302 13 J J J J (dn J J J J (fun hg=>bD tu ne J J)),
          ⟨gj 303 14 302 13 J J J J (dn J J J J (fun hg=>aI bA J J (aS J hg))),
          ⟨gj 304 15 302 13 J J J J (dn J J J J (fun hg=>g9 (aS J hg) hI)),
          ⟨dG 302 13 305 16 J J J J (mI J J),
          ⟨cT 289 0 J J J (zm J),
          ⟨cT 306 17 J J J (zm J),
          aT⟩⟩⟩⟩⟩⟩⟩⟩⟩⟩⟩⟩⟩⟩⟩⟩⟩⟩⟩⟩ ?_
         refine aq<|ak ?_;cases so h;exact co J J J

end Go.Proofs.YtnmjbolollcokaaGreatDoor

