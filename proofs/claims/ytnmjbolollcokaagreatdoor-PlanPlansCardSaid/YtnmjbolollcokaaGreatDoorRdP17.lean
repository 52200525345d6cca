/- dr of this claim: P17. -/
import Derived.Test.YtnmjbolollcokaaGreatDoorRdT
import Derived.Test.YtnmjbolollcokaaGreatDoorRdP16
set_option linter.all false
namespace Go.Proofs.YtnmjbolollcokaaGreatDoor
open Go
set_option maxRecDepth 100000

theorem Ps: ∀(fu:Nat) (e:bf) {R:(List bf)} (h:lO fu e=some R),gK bl 231 [tD bn e] true bn 67 R:=by
 intro fu
 induction fu with
 |zero=>intro e R h;exact(nn h).elim
 |succ fu ih=>
  intro e R h
  refine gK.of Tryz.func231 J J J fun w0 S0=>aw<|zo J (jt J)<|cd false bn 67<|zo J (aU s6)<|au<|aw<|zo J (bD de bZ J J)<|zo J (bm ir J J)<|zo J (bD de bZ J J)<|zo J (bm ir J J)<|zo J (fW oo J)<|zo J (dL (ht J) hI)<|bz h fun e1 q_e1 h=>zo J (iQ oo cR J J J q_e1)<|zo J (bm cR J J)<|bj (r:=bc) (x:=Dl) cR (fun _=>kZ _) J fun b=>ai cR J aj J (ht J) (ht J)<|bh 3 J<|au ?_;refine ac<|aw<|zo J (bD fV dd J J)<|zo J (bm bA J J)<|zo J (Gw J)<|au<|cE h J (fun h=>?_) (fun h=>?_)
  ·refine aw<|zo J (bm eN J J)<|jT (r:=bn) (ys:=[e]) (xs:=[.tmp 15]) nc eN J J J J J ⟨(ht J),aT⟩ J fun l c=>bu J<|au<|ak<|M<|gV<|cC 2 J<|cC 16 J ?_;cases so h;exact Ms J J
  ·refine dz<|ac<|bz h fun r q_r h=>bz h fun r1 q_r1 h=>?_
   refine iK 8 [tc (tD bn e),tc (bt cx e1.L),tc (cb e1.L),tc (tD bn r),([4],fun s=>tO bn ((s.getD 0 nz).h 0).1 ((s.getD 0 nz).h 0).2 r1),tc (tD bn e),tc (bt cx e1.R),tc (cb e1.R)] [false,false,false,false,true,false,false,false] [fun _=>[ga bn 67 none 0 Mw],fun sg=>[tip bn 67 ((sg 4).h 0).1 ((sg 4).h 0).2 r1,ga bn 67 none 0 Mw]] J mixed J J J J J
    ⟨⟨[⟨1,fun _=>bt bn e,none⟩],_,0,0,J,⟨(fun _=>J),aT⟩,J,J,J,J,J,fun _ sg _ _=>aa J (bm eN J J)⟩,
    ⟨⟨[⟨3,fun _=>bt bc e1,none⟩],_,0,0,J,⟨(fun _=>J),aT⟩,J,J,J,J,J,fun _ sg _ _=>aa J (bD pe ko J J)⟩,
    ⟨⟨[⟨18,fun _=>bt cx e1.L,some 1⟩],_,0,0,J,⟨(fun _=>J),aT⟩,J,J,J,J,J,fun _ sg _ _=>aa J (bm bA J J)⟩,
    ⟨⟨[⟨17,fun _=>tD bn e,some 0⟩,⟨19,fun _=>tD cx e1.L,some 2⟩],_,0,0,J,⟨(fun _=>J),(fun _=>J),aT⟩,J,J,J,J,J,fun _ sg _ _=>aa J (aC SO (LA _ _ q_r) ⟨(ht J),(ht J),aT⟩)⟩,
    ⟨⟨[⟨20,fun _=>tD bn r,some 3⟩],_,J,⟨(fun _=>J),aT⟩,J,J,J,fun sg=>bN J (Nu (xs:=[.tmp 20]) (ts:=[tD bn r]) PU (ih _ q_r1) ⟨(ht J),aT⟩)⟩,
    ⟨⟨[⟨1,fun _=>bt bn e,none⟩],_,0,1,J,⟨(fun _=>J),aT⟩,J,J,J,J,J,fun _ sg _ _=>aa J (bm eN J J)⟩,
    ⟨⟨[⟨3,fun _=>bt bc e1,none⟩],_,0,1,J,⟨(fun _=>J),aT⟩,J,J,J,J,J,fun _ sg _ _=>aa J (bD n9 jC J J)⟩,
    ⟨⟨[⟨23,fun _=>bt cx e1.R,some 6⟩],_,0,1,J,⟨(fun _=>J),aT⟩,J,J,J,J,J,fun _ sg _ _=>aa J (bm bA J J)⟩,
    aT⟩⟩⟩⟩⟩⟩⟩⟩ (fun sg=>?_)
   refine(show RG _ _ _ _ [tip bn 67 ((sg 4).h 0).1 ((sg 4).h 0).2 r1,ga bn 67 none 0 Mw] _ from ?_);refine bz h fun r2 q_r2 h=>zo J (aC SO (LA _ _ q_r2) ⟨(ht J),(ht J),aT⟩)<|bz h fun r3 q_r3 h=>Jq PU (ih _ q_r3) ⟨(ht J),aT⟩ J fun l1 c1=>bL<|bz h fun x q_x h=>my eN J J J J nc J J (ht J) (kT (ht J)) q_x fun l2 c2=>bu J<|au<|ak ?_;cases so h;exact Ms J J
theorem Pt(e:bf){R:(List bf)}(h:wh e=some R):gK bl 231 [tD bn e] true bn 67 R:=Ps cZ e h
theorem Rr(e:bf)(left:Int){R:Int×Int×Bool}(h:t8 e left=some R):bo bl 232 [tD bn e,cb left] (tT [cb R.1,cb R.2.1,gq R.2.2]):=by
 refine bo.of Tryz.func232 J J J fun w0 S0=>aw<|zo J (jt J)<|zo J (dB)<|zo J (dB)<|zo J (ez)<|au<|ac<|aw<|zo J (bD de bZ J J)<|zo J (bm ir J J)<|zo J (fW oo J)<|zo J (Gw J)<|aE J<|bz h fun t q_t h=>ci J J (fun hg=>bD de bZ J J)<|ci J J (fun hg=>aI ir J J (aS J hg)) ?_
 obtain⟨e1,h1t,h0t⟩:=og q_t
 have q_e1g:=fun hb=>(h1t hb).1
 refine ci J J (fun hg=>aQ oo cR J (aS J hg) hI (q_e1g hg))<|ci J J (fun hg=>d6 fV J dd J (aS J hg))<|ci J J (fun hg=>aI bA J J (aS J hg))<|ci J J (fun hg=>cF (aS J hg) hI)<|zo J (dj (ht J) (fun hb=>(aS J (nZ hb))) (fun hb=>(h1t hb).2) h0t)<|aE J<|bz h fun t1 q_t1 h=>ci J J (fun hg=>bD de bZ J J)<|ci J J (fun hg=>aI ir J J (aS J hg)) ?_
 obtain⟨e2,h1t1,h0t1⟩:=og q_t1
 have q_e2g:=fun hb=>(h1t1 hb).1
 refine ci J J (fun hg=>aQ oo cR J (aS J hg) hI (q_e2g hg))<|ci J J (fun hg=>d6 fV J dd J (aS J hg))<|ci J J (fun hg=>aI bA J J (aS J hg))<|ci J J (fun hg=>cF (aS J hg) hI)<|zo J (dj (ht J) (fun hb=>(aS J (nZ hb))) (fun hb=>(h1t1 hb).2) h0t1)<|aE J<|bz h fun t2 q_t2 h=>ci J J (fun hg=>bD de bZ J J)<|ci J J (fun hg=>aI ir J J (aS J hg)) ?_
 obtain⟨e3,h1t2,h0t2⟩:=og q_t2
 have q_e3g:=fun hb=>(h1t2 hb).1
 refine ci J J (fun hg=>aQ oo cR J (aS J hg) hI (q_e3g hg))<|ci J J (fun hg=>d6 fV J dd J (aS J hg))<|ci J J (fun hg=>aI bA J J (aS J hg))<|ci J J (fun hg=>cF (aS J hg) hI)<|zo J (dj (ht J) (fun hb=>(aS J (nZ hb))) (fun hb=>(h1t2 hb).2) h0t2)<|au<|cE h J (fun h=>?_) (fun h=>?_)
 ·refine aw<|zo J (dB)<|zo J (dB)<|zo J (ez)<|au<|ak<|M ?_;cases so h;exact wI J J J J
 ·refine dz<|ac<|bz h fun e4 q_e4 h=>bz h fun e5 q_e5 h=>?_
  refine eu (ts:=[_,_,_,_,_,_,_,_,_,_,_,_]) mixed J J
   ⟨ef 2 J J J (bD de bZ J J),
   ⟨cT 37 0 J J J (bm ir J J),
   ⟨cT 38 1 J J J (aQ oo cR J (ht J) hI q_e4),
   ⟨cT 39 2 J J J (bD j7 eQ J J),
   ⟨cT 40 3 J J J (bm bA J J),
   ⟨ef 2 J J J (bD de bZ J J),
   ⟨cT 42 5 J J J (bm ir J J),
   ⟨cT 43 6 J J J (aQ oo cR J (ht J) hI q_e5),
   ⟨cT 44 7 J J J (bD j7 eQ J J),
   ⟨cT 45 8 J J J (bm bA J J),
   ⟨cT 41 4 J J J (zm J),
   ⟨cT 46 9 J J J (zm J),
   aT⟩⟩⟩⟩⟩⟩⟩⟩⟩⟩⟩⟩ ?_
  refine aq ?_;refine yC (Z:=fun a1 b=>rK left a1 b=some R) (Of:=fun a1 b=>[]) (Gf:=fun a1 b=>[(1,cb left),(7,cb a1),(8,cb b)]) (fun a1 b h=>?_) (fun K=>?_)
  ·skip
   refine ac<|aw<|aE J<|aE J<|zo J (cU (ht J) (ht J))<|aE J<|ci J J (fun hg=>cG J)<|ci J J (fun hg=>cG J)<|ci J J (fun hg=>eO (aS J hg) (aS J hg))<|zo J (nW J J)<|au<|cE h J (fun h=>?_) (fun h=>?_)
   ·refine aw<|zo J (dB)<|zo J (dB)<|zo J (ez)<|au<|ak<|M ?_;cases so h;exact wI J J J J
   ·refine dz<|aw<|aE J<|aE J<|aE J<|zo J (dL (ht J) (ht J))<|bu J<|bu J<|zo J (ez)<|au<|ak ?_;cases so h;exact wI J J J J
  ·skip
   refine aw<|aE J<|aE J<|zo J (cU (ht J) (ht J))<|au<|cE h J (fun h=>?_) (fun h=>?_)
   ·refine am<|aE J<|aE J<|bu J<|bu J<|aJ ?_;exact bJ (K e5.Col e4.Col h) (bg J)
   ·refine bk ?_;exact bJ (K e4.Col e5.Col h) (bg J)

theorem Rq(e:bf){R:Bool}(h:rh e=some R):bo bl 233 [tD bn e] (gq R):=by
 refine bo.of Tryz.func233 J J J fun w0 S0=>aw<|zo J (jt J)<|zo J (ez)<|au<|ac<|aw<|zo J (bD de bZ J J)<|zo J (bm ir J J)<|zo J (fW oo J)<|zo J (bQ hI)<|au<|ax<|br (k:=6) J fun hN=>bB ?_;refine aP (em (Z:=fun ls i=>(e.Nodes.drop i=ls)∧py ls=some R) (Of:=fun _ i=>[]) (Gf:=fun _ i=>[(6,fc (bc) e.Nodes),(7,jV e.Nodes),(8,cb (i:Int))]) (fun i h=>?_) (fun e1 tl ih i h=>?_) e.Nodes 0 ⟨J,h⟩) (bg J)
 ·obtain⟨hx,h⟩:=h
  refine aB<|aw<|zo J (ft J J)<|au<|ac<|bP (ht J) (dU hx)<|bp ?_;refine ae (ae (aK ?_));refine aq<|aw<|zo rfl (ez)<|au<|ak ?_;cases so h;exact aF J J
 ·obtain⟨hx,h⟩:=h
  refine aB<|aw<|zo J (ft J J)<|au<|ac<|bO (ht J) (dN hx)<|dz<|ac<|ax<|aw<|zo J (iQ oo cR J J J (dO hx))<|zo J (bm cR J J)<|bj (r:=bc) (x:=Dl) cR (fun _=>kZ _) J fun b=>ai cR J aj J (ht J) (ht J)<|bh 4 J<|au<|aw<|zo J (bD fV dd J J) ?_;refine zo J (bm bA J J)<|zo J (iz J)<|aE J<|ci J J (fun hg=>bD fV dd J J)<|ci J J (fun hg=>aI bA J J (aS J hg))<|ci J J (fun hg=>cU (aS J hg) hI)<|ci J J (fun hg=>bQ (aS J hg))<|d3 J J J J (fun hg=>bD fV dd J J)<|d3 J J J J (fun hg=>aI bA J J (aS J hg))<|d3 J J J J (fun hg=>g9 (aS J hg) hI)<|ci J J (fun hg=>km (aS J hg) (fun hb=>(aS J (tF hg hb))))<|zo J (nW J J)<|au<|cE h J (fun h=>?_) (fun h=>?_)
  ·refine aw<|zo J (ez)<|au<|ak ?_;refine ay (M (M (ay (M ?_))));cases so h;exact aF J J
  ·refine bk<|an<|aq<|am<|zo rfl (nh (dm hx hN) rfl)<|aE rfl<|aJ ?_;exact be (aP (ih (i+1) ⟨dl hx,h⟩) (bg J))

theorem RN(cond:bf)(left:Int){R:(List Int)×(List Int)}(h:sl cond left=some R):bo bl 188 [tD bn cond,cb left] (tT [dI R.1,dI R.2]):=by
 refine bo.of Tryz.func188 J J J fun w0 S0=>aw<|zo J (jt J)<|zo J (aU (show aZ _ _ _ mJ from jr))<|zo J (aU (show aZ _ _ _ mJ from jr))<|au<|aw<|cd false cx 3<|zo J (aU s6)<|cd false cx 3<|zo J (aU s6)<|au<|aw<|zo J (bm eN J J)<|bz h fun r q_r h=>Jq PU (Pt _ q_r) ⟨(ht J),aT⟩ J fun l c=>bu J<|au ?_;refine ac<|aw<|zo J (dB)<|au<|ax<|NV 8 J<|br (k:=8) J fun hN=>bB<|mH<|eV ?_;refine aP (A4 (Z:=fun ls i a1 l1 c1 b l2 c2=>(r.drop i=ls)∧iY left ls a1 b=some R) (Of:=fun _ i a1 l1 c1 b l2 c2=>[ga cx 3 l1 c1 a1,ga cx 3 l2 c2 b]) (Gf:=fun _ i a1 l1 c1 b l2 c2=>[(1,cb left),(6,oP l1 c1 a1),(7,oP l2 c2 b),(8,fc (bn) r),(9,cb (i:Int))]) (fun i a1 l1 c1 b l2 c2 h=>?_) (fun e tl ih i a1 l1 c1 b l2 c2 h=>?_) r 0 oq none 0 oq none 0 ⟨J,h⟩) (bg J)
 ·obtain⟨hx,h⟩:=h
  refine aB<|ac<|aw<|aE J<|aE J<|zo J (fW nc J)<|zo J (ft J J)<|au<|bP (ht J) (dU hx)<|bp ?_;refine ae (ae (aK ?_));refine aq<|aw<|aE rfl<|aE rfl<|bu rfl<|bu rfl<|au<|ak<|gV<|cC 6 rfl<|cC 55 rfl<|cC 4 rfl<|ik 4 rfl<|bE<|gV<|cC 7 rfl<|cC 56 rfl<|cC 5 rfl<|ik 5 rfl<|aL<|aL ?_;cases so h;exact co J J J
 ·obtain⟨hx,h⟩:=h
  refine aB<|ac<|aw<|aE J<|aE J<|zo J (fW nc J)<|zo J (ft J J)<|au<|bO (ht J) (dN hx)<|dz<|ac<|ax<|aw<|aE J<|aE J<|zo J (iQ nc eN J J J (dO hx))<|zo J (bm eN J J)<|aE J<|bz h fun r1 q_r1 h=>zo J (aC WF (Rr _ _ q_r1) ⟨(ht J),(ht J),aT⟩) ?_;refine aE J<|zo J (kG J J)<|zo J (kG J J)<|zo J (kG J J)<|bu J<|bu J<|bu J<|au ?_;refine Gl (Z:=fun a2 l3 c3 b1 l4 c4=>ow (iY left tl) e r1 a2 b1=some R) (Of:=fun a2 l3 c3 b1 l4 c4=>[ga cx 3 l3 c3 a2,ga cx 3 l4 c4 b1]) (Gf:=fun a2 l3 c3 b1 l4 c4=>[(1,cb left),(6,oP l3 c3 a2),(7,oP l4 c4 b1),(8,fc (bn) r),(9,cb (i:Int)),(12,gq r1.2.2)]) (fun a2 l3 c3 b1 l4 c4 h=>?_) (fun K=>?_)
  ·skip
   refine aw<|aE J<|zo J (dh (ht J))<|aE J<|bz h fun t q_t h=>bX J J (fun hg=>cG J)<|bX J J (fun hg=>cG J)<|bX J J (fun hg=>aQ nc eN J (aS J hg) (aS J hg) (dO hx))<|bX J J (fun hg=>aI eN J J (aS J hg)) ?_
   obtain⟨r2,h1t,h0t⟩:=og q_t
   have q_r2g:=fun hb=>(h1t hb).1
   refine bX J J (fun hg=>aC WE (Rq _ (q_r2g hg)) ⟨(aS J hg),aT⟩)<|bX J J (fun hg=>dh (aS J hg))<|zo J (cS (ht J) (fun hb=>(aS J hb)) (fun hb=>(h1t hb).2) h0t)<|au<|cE h J (fun h=>?_) (fun h=>?_)
   ·refine aw<|zo J (aU (show aZ _ _ _ mJ from jr))<|zo J (aU (show aZ _ _ _ mJ from jr))<|au<|ak ?_;refine ay (M (M (ay (M ?_))));refine aL<|aL ?_;cases so h;exact co J J J
   ·refine bk<|an<|aq<|am<|aE rfl<|zo rfl (nh (dm hx hN) rfl)<|bu rfl<|aJ ?_;exact be (aP (ih (i+1) a2 l3 c3 b1 l4 c4 ⟨dl hx,h⟩) (bg J))
  ·skip
   refine aw<|aE J<|aE J<|bX J J (fun hg=>cG J)<|bX J J (fun hg=>gQ dc (.head _) (aS J hg))<|bX J J (fun hg=>eO (aS J hg) hI)<|zo J (mI J J)<|au<|cE h J (fun h=>?_) (fun h=>?_)
   ·refine aw<|aE J<|aE J<|zo J (aN (r:=cx) (ys:=[r1.1]) (xs:=[.tmp 38]) dc bA J J J J J ⟨(ht J),aT⟩)<|bz h fun a3 q_a3 h=>cK bA J J J J dc J J (ht J) (ht J) q_a3 fun l5 c5=>bu J<|au<|am<|aE J<|aE J<|zo J (aN (r:=cx) (ys:=[r1.2.1]) (xs:=[.tmp 42]) dc bA J J J J J ⟨(ht J),aT⟩)<|bL<|bz h fun b2 q_b2 h=>cK bA J J J J dc J J (ht J) (ht J) q_b2 fun l6 c6=>bu J<|aJ<|bE ?_;exact bJ (K a3 l5 c5 b2 l6 c6 h) (bg J)
   ·refine bk ?_;exact bJ (K a1 l1 c1 b l2 c2 h) (bg J)

theorem Pw(l:(List Int))(places:(List Int)){R:(List Int)}(h:sn l places=some R):gK bl 189 [dI l,dI places] false cx 3 R:=by
 refine gK.of Tryz.func189 J J J fun w0 S0=>aw<|cd false cx 3<|zo J (aU s6)<|au<|aw<|cd false cx 3<|zo J (aU s6)<|au<|ac<|aw<|zo J (dB)<|au<|ax<|br (k:=1) J fun hN=>bB<|eV<|mH ?_;refine aP (lZ (Z:=fun ls i out l1 c=>(places.drop i=ls)∧qg l ls out=some R) (Of:=fun _ i out l1 c=>[ga cx 3 l1 c out]) (Gf:=fun _ i out l1 c=>[(0,dI l),(1,dI places),(5,oP l1 c out),(6,cb (i:Int))]) (fun i out l1 c h=>?_) (fun e tl ih i out l1 c h=>?_) places 0 oq none 0 ⟨J,h⟩) (bg J)
 ·obtain⟨hx,h⟩:=h
  refine aB<|ac<|aw<|aE J<|aE J<|zo J (fW dc J)<|zo J (ft J J)<|au<|bP (ht J) (dU hx)<|bp ?_;refine ae (ae (aK ?_));refine aq<|aw<|aE rfl<|bu rfl<|au<|ak ?_;cases so h;exact jd J J
 ·obtain⟨hx,h⟩:=h
  refine aB<|ac<|aw<|aE J<|aE J<|zo J (fW dc J)<|zo J (ft J J)<|au<|bO (ht J) (dN hx)<|dz<|ac<|ax<|am<|aE J<|aE J<|aE J<|aE J<|zo J (iQ dc bA J J J (dO hx))<|zo J (bm bA J J)<|bz h fun e1 q_e1 h=>zo J (iQ dc bA J J J q_e1) ?_;refine zo J (bm bA J J)<|zo J (aN (r:=cx) (ys:=[e1]) (xs:=[.tmp 20]) dc bA J J J J J ⟨(ht J),aT⟩)<|bz h fun cv q_out1 h=>cK bA J J J J dc J J (ht J) (ht J) q_out1 fun l2 c1=>bu J<|aJ<|an<|aq<|am<|aE rfl<|zo rfl (nh (dm hx hN) rfl)<|bu rfl<|aJ ?_;exact be (aP (ih (i+1) cv l2 c1 ⟨dl hx,h⟩) (bg J))
theorem Hh(l:(List Int))(places:(List Int)){R:(List Int)}(h:sn l places=some R):bo bl 189 [dI l,dI places] (dI R):=(Pw _ _ h).spec

theorem R7(n:af)(kinds:(List Int))(a1:bI)(b:bI){R:bI}(h:wc n kinds a1 b=some R):bo bl 117 [tD ah n,dI kinds,tD aW a1,tD aW b] (tD aW R):=by
 refine bo.of Tryz.func117 J J J fun w0 S0=>aw<|zo J (jt J)<|kO (ht J) J fun b1=>kO (ht J) J fun b2=>bj (r:=aW) (x:=qX) bW (fun _=>jo _) J fun b3=>au<|ac<|aw<|zo J (dy 3 nq J J J)<|zo J (aA yK J J kX (.tail _ (.tail _ (.head _))) (ht J))<|aE J<|ci J J (fun hg=>dy 3 nq J J J)<|ci J J (fun hg=>aA yK J J kX (.tail _ (.head _)) (aS J hg))<|zo J (nW J J)<|au<|cE h J (fun h=>?_) (fun h=>?_)
 ·refine yC (Z:=fun a2 b4=>pu n kinds a2 b4=some R) (Of:=fun a2 b4=>[bx aW 102 b1 a2,bx aW 102 b2 b4,bx aW 102 b3 qX]) (Gf:=fun a2 b4=>[(1,dI kinds),(4,bt ah n),(6,tV (aM b1 0)),(7,tV (aM b2 0)),(8,tV (aM b3 0))]) (fun a2 b4 h=>?_) (fun K=>?_)
  ·skip
   refine ac<|bz h fun r q_r h=>bz h fun r1 q_r1 h=>?_
   refine iK 7 [tc (tD ah n),tc (dI kinds),tc (tD aW a2),tc (tD aW b4),tc (tD aW r),tc (tD aW r1),([6],fun s=>tV (aM ((s.getD 0 nz).h 0).2 0))] [false,false,false,false,false,false,true] [fun _=>[bx aW 102 b1 a2,bx aW 102 b2 b4,bx aW 102 b3 qX],fun sg=>[bx aW 102 ((sg 6).h 0).2 qX,bx aW 102 b1 a2,bx aW 102 b2 b4,bx aW 102 b3 qX]] J mixed J J J J J
    ⟨⟨[⟨4,fun _=>bt ah n,none⟩],_,0,1,J,⟨(fun _=>J),aT⟩,J,J,J,J,J,fun _ sg _ _=>aa J (bm cz J J)⟩,
    ⟨⟨[⟨1,fun _=>tD oS kinds,none⟩],_,0,1,J,⟨(fun _=>J),aT⟩,J,J,J,J,J,fun _ sg _ _=>aa J (cG J)⟩,
    ⟨⟨[⟨6,fun _=>tV (aM b1 0),none⟩],_,0,1,J,⟨(fun _=>J),aT⟩,J,J,J,J,J,vV (fun sg=>aa J (aA bW J J aR (.head _) (ht J))) (tU (fun sg=>aa J (aA bW J J aR (.tail _ (.head _)) (ht J))))⟩,
    ⟨⟨[⟨7,fun _=>tV (aM b2 0),none⟩],_,0,1,J,⟨(fun _=>J),aT⟩,J,J,J,J,J,vV (fun sg=>aa J (aA bW J J aR (.tail _ (.head _)) (ht J))) (tU (fun sg=>aa J (aA bW J J aR (.tail _ (.tail _ (.head _))) (ht J))))⟩,
    ⟨⟨[⟨38,fun _=>tD aW b4,some 3⟩],_,0,1,J,⟨(fun _=>J),aT⟩,J,J,J,J,J,fun _ sg _ _=>aa J (aC ND (BI _ q_r) ⟨(ht J),aT⟩)⟩,
    ⟨⟨[⟨35,fun _=>tD ah n,some 0⟩,⟨36,fun _=>tD oS kinds,some 1⟩,⟨37,fun _=>tD aW a2,some 2⟩,⟨39,fun _=>tD aW r,some 4⟩],_,0,1,J,⟨(fun _=>J),(fun _=>J),(fun _=>J),(fun _=>J),aT⟩,J,J,J,J,J,fun _ sg _ _=>aa J (aC LW (Da _ _ _ _ q_r1) ⟨(ht J),(ht J),(ht J),(ht J),aT⟩)⟩,
    ⟨⟨[],_,J,aT,J,J,J,fun sg=>bN J (ev (r:=aW) (x:=qX) bW (fun _=>jo _))⟩,
    aT⟩⟩⟩⟩⟩⟩⟩ (fun sg=>?_)
   refine(show RG _ _ _ _ [bx aW 102 ((sg 6).h 0).2 qX,bx aW 102 b1 a2,bx aW 102 b2 b4,bx aW 102 b3 qX] _ from ?_);refine ai bW J aj J (ht J) (ht J)<|au<|aw<|zo J (dy 3 nq J J J)<|ai yK J Bo J (ht J) hB<|au<|aw<|zo J (aA (x:=(bI.mk r1.Frags r1.Nodes r1.Kinds true r1.Hashed)) bW J J aR (.head _) (ht J))<|dC<|ai bW J aj J (ht J) (ht J)<|au<|ak<|M<|bH 8 J<|aL<|aL<|aL ?_;cases so h;exact dF J bW J J J
  ·skip
   refine aw<|zo J (dy 3 nq J J J)<|zo J (aA yK J J kX (.tail _ (.tail _ (.head _))) (ht J))<|zo J (dh (ht J))<|au<|cE h J (fun h=>?_) (fun h=>?_)
   ·refine aw<|zo J (dy 0 ic J J J)<|zo J (aA jh J J iG (.tail _ (.head _)) (ht J))<|zo J (dy 0 ic J J J)<|c0<|ai jh J lA J (ht J) (ht J)<|au<|aw<|zo J (aA (x:=(bI.mk b.Frags a1.Nodes a1.Kinds a1.One a1.Hashed)) bW J J aR (.head _) (ht J))<|bz h fun r2 q_r2 h=>zo J (aC ND (BI _ q_r2) ⟨(ht J),aT⟩)<|ai bW J aj J (ht J) (ht J)<|au<|am<|zo J (dy 0 ic J J J)<|zo J (aA jh J J iG (.head _) (ht J))<|zo J (dy 0 ic J J J)<|c0<|ai jh J lA J (ht J) (ht J)<|aJ ?_;refine aD<|bE<|aD ?_;exact bJ (K r2 (bI.mk r2.Frags b.Nodes b.Kinds b.One b.Hashed) h) (bg J)
   ·refine bk<|bE<|aD ?_;exact bJ (K a1 b h) (bg J)
 ·refine dz<|aw<|zo J (bD p7 jB J J)<|zo J (bm eN J J)<|zo J (dy 2 Hd J J J)<|zo J (aA cD J J F0 (.tail _ (.tail _ (.head _))) (ht J))<|zo J (fW dc J)<|bz h fun r3 q_r3 h=>zo J (aC Xa (RN _ _ q_r3) ⟨(ht J),(ht J),aT⟩)<|aE J<|zo J (kG J J)<|zo J (kG J J)<|bu J<|bu J<|au<|ac<|aw<|aE J<|zo J (fW dc J)<|zo J (iz J) ?_;refine au<|cE h J (fun h=>?_) (fun h=>?_)
  ·refine ac<|bz h fun r4 q_r4 h=>bz h fun r5 q_r5 h=>?_
   refine iK 7 [tc (tD ah n),tc (dI kinds),tc (tD aW a1),tc (tD aW b),tc (tD aW r4),tc (tD aW r5),([6],fun s=>tV (aM ((s.getD 0 nz).h 0).2 0))] [false,false,false,false,false,false,true] [fun _=>[bx aW 102 b3 qX,bx aW 102 b2 b,bx aW 102 b1 a1],fun sg1=>[bx aW 102 ((sg1 6).h 0).2 qX,bx aW 102 b3 qX,bx aW 102 b2 b,bx aW 102 b1 a1]] J mixed J J J J J
    ⟨⟨[⟨4,fun _=>bt ah n,none⟩],_,0,1,J,⟨(fun _=>J),aT⟩,J,J,J,J,J,fun _ sg1 _ _=>aa J (bm cz J J)⟩,
    ⟨⟨[⟨1,fun _=>tD oS kinds,none⟩],_,0,1,J,⟨(fun _=>J),aT⟩,J,J,J,J,J,fun _ sg1 _ _=>aa J (cG J)⟩,
    ⟨⟨[⟨6,fun _=>tV (aM b1 0),none⟩],_,0,1,J,⟨(fun _=>J),aT⟩,J,J,J,J,J,vV (fun sg1=>aa J (aA bW J J aR (.tail _ (.tail _ (.head _))) (ht J))) (tU (fun sg1=>aa J (aA bW J J aR (.tail _ (.tail _ (.tail _ (.head _)))) (ht J))))⟩,
    ⟨⟨[⟨7,fun _=>tV (aM b2 0),none⟩],_,0,1,J,⟨(fun _=>J),aT⟩,J,J,J,J,J,vV (fun sg1=>aa J (aA bW J J aR (.tail _ (.head _)) (ht J))) (tU (fun sg1=>aa J (aA bW J J aR (.tail _ (.tail _ (.head _))) (ht J))))⟩,
    ⟨⟨[⟨58,fun _=>tD aW b,some 3⟩],_,0,1,J,⟨(fun _=>J),aT⟩,J,J,J,J,J,fun _ sg1 _ _=>aa J (aC Jc (xQ _ _ _ q_r4) ⟨(ht J),hI,jr,aT⟩)⟩,
    ⟨⟨[⟨55,fun _=>tD ah n,some 0⟩,⟨56,fun _=>tD oS kinds,some 1⟩,⟨57,fun _=>tD aW a1,some 2⟩,⟨59,fun _=>tD aW r4,some 4⟩],_,0,1,J,⟨(fun _=>J),(fun _=>J),(fun _=>J),(fun _=>J),aT⟩,J,J,J,J,J,fun _ sg1 _ _=>aa J (aC LW (Da _ _ _ _ q_r5) ⟨(ht J),(ht J),(ht J),(ht J),aT⟩)⟩,
    ⟨⟨[],_,J,aT,J,J,J,fun sg1=>bN J (ev (r:=aW) (x:=qX) bW (fun _=>jo _))⟩,
    aT⟩⟩⟩⟩⟩⟩⟩ (fun sg1=>?_)
   refine(show RG _ _ _ _ [bx aW 102 ((sg1 6).h 0).2 qX,bx aW 102 b3 qX,bx aW 102 b2 b,bx aW 102 b1 a1] _ from ?_);refine ai bW J aj J (ht J) (ht J)<|au<|aw<|zo J (dy 4 kL J J J)<|zo J (aA cD J J mW (.tail _ (.tail _ (.tail _ (.head _)))) (ht J))<|zo J (dy 4 kL J J J)<|ai cD J oV J (ht J) (ht J)<|au<|aw<|zo J (aA (x:=(bI.mk r5.Frags r5.Nodes r5.Kinds r5.One a1.Hashed)) bW J J aR (.head _) (ht J))<|bL<|ai bW J aj J (ht J) (ht J)<|au<|ak<|M<|bH 8 J<|aL<|aL<|aL ?_;cases so h;exact dF J bW J J J
  ·refine dz ?_;refine yC (Z:=fun a3 b5=>mh n kinds a3 b5=some R) (Of:=fun a3 b5=>[bx aW 102 b1 a3,bx aW 102 b2 b5,bx aW 102 b3 qX]) (Gf:=fun a3 b5=>[(1,dI kinds),(4,bt ah n),(6,tV (aM b1 0)),(7,tV (aM b2 0)),(8,tV (aM b3 0))]) (fun a3 b5 h=>?_) (fun K1=>?_)
   ·skip
    refine aw<|zo J (bm cz J J)<|aE J<|zo J (aA bW J J aR (.head _) (ht J))<|zo J (aA bW J J aR (.tail _ (.head _)) (ht J))<|bz h fun r6 q_r6 h=>zo J (aC LW (Da _ _ _ _ q_r6) ⟨(ht J),(ht J),(ht J),(ht J),aT⟩)<|bj (r:=aW) (x:=qX) bW (fun _=>jo _) J fun b6=>ai bW J aj J (ht J) (ht J)<|au<|aw<|zo J (dy 4 kL J J J)<|zo J (aA cD J J mW (.tail _ (.head _)) (ht J))<|zo J (dy 4 kL J J J)<|ai cD J oV J (ht J) (ht J)<|au<|aw<|zo J (aA (x:=(bI.mk r6.Frags r6.Nodes r6.Kinds r6.One a3.Hashed)) bW J J aR (.head _) (ht J))<|dC ?_;refine ai bW J aj J (ht J) (ht J)<|au<|ak<|bH 8 J<|aL<|aL<|aL ?_;cases so h;exact dF J bW J J J
   ·skip
    refine aw<|zo J (dy 4 kL J J J)<|zo J (aA cD J J mW (.tail _ (.tail _ (.head _))) (ht J))<|aE J<|bz h fun r7 q_r7 h=>zo J (aC LX (Db _ _ q_r7) ⟨(ht J),(ht J),aT⟩)<|aE J<|zo J (kG J J)<|zo J (kG J J)<|bu J<|bu J<|au<|aw<|aE J<|au<|cE h J (fun h=>?_) (fun h=>?_)
    ·refine ac<|bz h fun r8 q_r8 h=>bz h fun r9 q_r9 h=>?_
     refine eu (ts:=[_,_,_,_,_,_,_]) mixed J J
      ⟨ef 7 J J J (dy 4 kL J J J),
      ⟨cT 73 0 J J J (aA cD J J mW (.tail _ (.head _)) (ht J)),
      ⟨ef 11 J J J (cG J),
      ⟨ef 13 J J J (cG J),
      ⟨dG 75 2 76 3 J J J J (aC PX (Hh _ _ q_r8) ⟨(ht J),(ht J),aT⟩),
      ⟨dG 74 1 77 4 J J J J (aC PV (Ej _ _ q_r9) ⟨(ht J),(ht J),aT⟩),
      ⟨cT 78 5 J J J (dh (ht J)),
      aT⟩⟩⟩⟩⟩⟩⟩ ?_
     refine aq<|cE h rfl (fun h=>?_) (fun h=>?_)
     ·refine bz h fun r10 q_r10 h=>bz h fun r11 q_r11 h=>?_
      refine iL 5 (ts:=[tD aW b,dI r3.2,dI r7.1,dI r10,tD aW r11]) mixed J J J
       ⟨ef 7 J J J (aA bW J J aR (.tail _ (.head _)) (ht J)),
       ⟨ef 11 J J J (cG J),
       ⟨ef 13 J J J (cG J),
       ⟨dG 81 1 82 2 J J J J (aC PX (Hh _ _ q_r10) ⟨(ht J),(ht J),aT⟩),
       ⟨dG 80 0 83 3 J J J J (aC Jc (xQ _ _ _ q_r11) ⟨(ht J),hI,(ht J),aT⟩),
       aT⟩⟩⟩⟩⟩ ?_
      refine bL<|ai bW J aj J (ht J) (ht J)<|aJ<|bE<|bE<|aD ?_;exact bJ (K1 a1 r11 h) (bg J)
     ·refine bk<|bE<|aD ?_;exact bJ (K1 a1 b h) (bg J)
    ·refine aw<|zo J (dy 4 kL J J J)<|zo J (aA cD J J mW (.tail _ (.head _)) (ht J))<|aE J<|bz h fun r12 q_r12 h=>zo J (aC LX (Db _ _ q_r12) ⟨(ht J),(ht J),aT⟩)<|aE J<|zo J (kG J J)<|zo J (kG J J)<|bu J<|bu J<|au<|aw<|aE J<|au<|cE h J (fun h=>?_) (fun h=>?_)
     ·refine aw<|zo J (dy 0 ic J J J)<|zo J (aA jh J J iG (.tail _ (.head _)) (ht J))<|zo J (dy 0 ic J J J)<|c0<|ai jh J lA J (ht J) (ht J)<|au<|ac<|bz h fun r13 q_r13 h=>bz h fun r14 q_r14 h=>?_
      refine iL 5 (ts:=[tD aW (bI.mk b.Frags a1.Nodes a1.Kinds a1.One a1.Hashed),dI r3.1,dI r12.1,dI r13,tD aW r14]) mixed J J J
       ⟨ef 6 J J J (aA (x:=(bI.mk b.Frags a1.Nodes a1.Kinds a1.One a1.Hashed)) bW J J aR (.head _) (ht J)),
       ⟨ef 10 J J J (cG J),
       ⟨ef 15 J J J (cG J),
       ⟨dG 97 1 98 2 J J J J (aC PX (Hh _ _ q_r13) ⟨(ht J),(ht J),aT⟩),
       ⟨dG 96 0 99 3 J J J J (aC Jc (xQ _ _ _ q_r14) ⟨(ht J),hI,(ht J),aT⟩),
       aT⟩⟩⟩⟩⟩ ?_
      refine ai bW J aj J (ht J) (ht J)<|au<|am<|zo J (dy 0 ic J J J)<|zo J (aA jh J J iG (.head _) (ht J))<|zo J (dy 0 ic J J J)<|c0<|ai jh J lA J (ht J) (ht J)<|aJ<|aD<|bE<|aD ?_;exact bJ (K1 r14 (bI.mk r14.Frags b.Nodes b.Kinds b.One b.Hashed) h) (bg J)
     ·refine aw<|zo J (dy 0 ic J J J)<|zo J (aA jh J J iG (.tail _ (.head _)) (ht J))<|zo J (dy 0 ic J J J)<|c0<|ai jh J lA J (ht J) (ht J)<|au<|aw<|zo J (aA (x:=(bI.mk b.Frags a1.Nodes a1.Kinds a1.One a1.Hashed)) bW J J aR (.head _) (ht J))<|aE J<|bz h fun r15 q_r15 h=>zo J (aC Jc (xQ _ _ _ q_r15) ⟨(ht J),hI,(ht J),aT⟩)<|ai bW J aj J (ht J) (ht J)<|au<|aw<|zo J (dy 0 ic J J J)<|zo J (aA jh J J iG (.head _) (ht J))<|zo J (dy 0 ic J J J)<|c0 ?_;refine ai jh J lA J (ht J) (ht J)<|au<|am<|zo J (aA (x:=(bI.mk r15.Frags b.Nodes b.Kinds b.One b.Hashed)) bW J J aR (.head _) (ht J))<|aE J<|bz h fun r16 q_r16 h=>zo J (aC Jc (xQ _ _ _ q_r16) ⟨(ht J),hI,(ht J),aT⟩)<|ai bW J aj J (ht J) (ht J)<|aJ<|aD<|bE<|aD ?_;exact bJ (K1 r15 r16 h) (bg J)

theorem rU(n:af)(kinds:(List Int))(s:bI){R:bI}(h:gb n kinds s=some R):bo bl 118 [tD ah n,dI kinds,tD aW s] (tD aW R):=by
 refine bo.of Tryz.func118 J J J fun w0 S0=>aw<|kO (ht J) J fun b=>kO (ht J) J fun b1=>bj (r:=aW) (x:=qX) bW (fun _=>jo _) J fun b2=>au<|aw<|zo J (dy 1 mF J J J)<|zo J (aA iB J J jA (.tail _ (.head _)) (ht J))<|zo J (fW om J)<|zo J (dL (ht J) hI)<|zo J (dy 1 fC J J J)<|c0<|ai bA J mf J (ht J) (ht J)<|au<|aw<|zo J (dy 2 iy J J J)<|ai bA J k7 J (ht J) hI<|aJ ?_;refine aq<|ac<|bz h fun l q_l h=>?_
 refine iK 6 [([0],fun s=>tO ah ((s.getD 0 nz).h 0).1 ((s.getD 0 nz).h 0).2 CB),tc (tV (aM b1 1)),tc (fc (ah) s.Nodes),([3],fun s=>tO ah ((s.getD 0 nz).h 0).1 ((s.getD 0 nz).h 0).2 l),tc (tD ah (af.mk n.Op (IntKind.i64.wrap ((s.Nodes.length:Int)-(1:Int))) mK n.Table n.Kinds n.Left n.Cond n.Keys n.Aggs n.Items n.Order n.Limit)),tc (fc (ah) ([(af.mk n.Op (IntKind.i64.wrap ((s.Nodes.length:Int)-(1:Int))) mK n.Table n.Kinds n.Left n.Cond n.Keys n.Aggs n.Items n.Order n.Limit)]))] [true,false,false,true,false,false] [fun _=>[bx ah 72 b (af.mk n.Op (IntKind.i64.wrap ((s.Nodes.length:Int)-(1:Int))) mK n.Table n.Kinds n.Left n.Cond n.Keys n.Aggs n.Items n.Order n.Limit),bx aW 102 b2 qX,bx aW 102 b1 s],fun sg=>[tip ah 72 ((sg 0).h 0).1 ((sg 0).h 0).2 CB,bx ah 72 b (af.mk n.Op (IntKind.i64.wrap ((s.Nodes.length:Int)-(1:Int))) mK n.Table n.Kinds n.Left n.Cond n.Keys n.Aggs n.Items n.Order n.Limit),bx aW 102 b2 qX,bx aW 102 b1 s],fun sg=>[tip ah 72 ((sg 3).h 0).1 ((sg 3).h 0).2 l,bx ah 72 b (af.mk n.Op (IntKind.i64.wrap ((s.Nodes.length:Int)-(1:Int))) mK n.Table n.Kinds n.Left n.Cond n.Keys n.Aggs n.Items n.Order n.Limit),bx aW 102 b2 qX,bx aW 102 b1 s]] J mixed J J J J J
  ⟨⟨[],_,J,aT,J,J,J,fun sg=>bN J (wC (r:=ah) (ys:=CB) (xs:=[]) om cz J J J J J trivial)⟩,
  ⟨⟨[⟨5,fun _=>tV (aM b1 0),none⟩],_,0,1,J,⟨(fun _=>J),aT⟩,J,J,J,J,J,fun _ sg _ _=>aa J (dy 1 mF J J J)⟩,
  ⟨⟨[⟨14,fun _=>tV (aM b1 1),some 1⟩],_,0,1,J,⟨(fun _=>J),aT⟩,J,J,J,J,J,vV (fun sg=>aa J (aA iB J J jA (.tail _ (.tail _ (.head _))) (ht J))) (tU (fun sg=>aa J (aA iB J J jA (.tail _ (.tail _ (.tail _ (.head _)))) (ht J))))⟩,
  ⟨⟨[⟨13,fun sg=>tO ah ((sg 0).h 0).1 ((sg 0).h 0).2 CB,some 0⟩,⟨15,fun _=>tD xf s.Nodes,some 2⟩],_,J,⟨(fun _=>J),(fun _=>J),aT⟩,J,J,J,fun sg=>bN J (jR cz J J J J om J (ht J) (ht J) q_l)⟩,
  ⟨⟨[⟨3,fun _=>tV (aM b 0),none⟩],_,0,2,J,⟨(fun _=>J),aT⟩,J,J,J,J,J,vV (fun sg=>aa J (aA (x:=(af.mk n.Op (IntKind.i64.wrap ((s.Nodes.length:Int)-(1:Int))) mK n.Table n.Kinds n.Left n.Cond n.Keys n.Aggs n.Items n.Order n.Limit)) cz J J aR (.head _) (ht J))) (vV (fun sg=>aa J (aA (x:=(af.mk n.Op (IntKind.i64.wrap ((s.Nodes.length:Int)-(1:Int))) mK n.Table n.Kinds n.Left n.Cond n.Keys n.Aggs n.Items n.Order n.Limit)) cz J J aR (.tail _ (.head _)) (ht J))) (tU (fun sg=>aa J (aA (x:=(af.mk n.Op (IntKind.i64.wrap ((s.Nodes.length:Int)-(1:Int))) mK n.Table n.Kinds n.Left n.Cond n.Keys n.Aggs n.Items n.Order n.Limit)) cz J J aR (.tail _ (.head _)) (ht J)))))⟩,
  ⟨⟨[⟨17,fun _=>tD ah (af.mk n.Op (IntKind.i64.wrap ((s.Nodes.length:Int)-(1:Int))) mK n.Table n.Kinds n.Left n.Cond n.Keys n.Aggs n.Items n.Order n.Limit),some 4⟩],_,0,2,J,⟨(fun _=>J),aT⟩,J,J,J,J,J,fun _ sg _ _=>aa J (aN (r:=ah) (ys:=[(af.mk n.Op (IntKind.i64.wrap ((s.Nodes.length:Int)-(1:Int))) mK n.Table n.Kinds n.Left n.Cond n.Keys n.Aggs n.Items n.Order n.Limit)]) (xs:=[.tmp 17]) om cz J J J J J ⟨(ht J),aT⟩)⟩,
  aT⟩⟩⟩⟩⟩⟩ (fun sg=>?_)
 refine(show RG _ _ _ _ [tip ah 72 ((sg 3).h 0).1 ((sg 3).h 0).2 l,bx ah 72 b (af.mk n.Op (IntKind.i64.wrap ((s.Nodes.length:Int)-(1:Int))) mK n.Table n.Kinds n.Left n.Cond n.Keys n.Aggs n.Items n.Order n.Limit),bx aW 102 b2 qX,bx aW 102 b1 s] _ from ?_);refine bz h fun l1 q_l1 h=>my cz J J J J om J J (ht J) (ht J) q_l1 fun l2 c=>zo J (dy 1 mF J J J)<|dC<|ai iB J yi J (ht J) (kT (ht J))<|au<|aw<|aE J<|zo J (dy 2 Hd J J J)<|ai cD J Bp J (ht J) (ht J)<|au<|aw<|zo J (aA (x:=(bI.mk s.Frags l1 kinds s.One s.Hashed)) bW J J aR (.head _) (ht J))<|dC<|ai bW J aj J (ht J) (ht J)<|bh 6 J<|au<|ak<|aL ?_;refine aL<|aL ?_;cases so h;exact dF J bW J J J

end Go.Proofs.YtnmjbolollcokaaGreatDoor

