/- dr of this claim: P18. -/
import Derived.Test.YtnmjbolollcokaaGreatDoorRdT
import Derived.Test.YtnmjbolollcokaaGreatDoorRdP17
set_option linter.all false
namespace Go.Proofs.YtnmjbolollcokaaGreatDoor
open Go
set_option maxRecDepth 100000

theorem I4(n:Int){R:(List Int)}(h:oy n=some R):gK bl 121 [cb n] false cx 3 R:=by
 refine gK.of Tryz.func121 J J J fun w0 S0=>aw<|cd false cx 3<|zo J (aU s6)<|au<|aw<|cd false cx 3<|zo J (aU s6)<|au<|ac<|aw<|zo J (dB)<|au<|ax<|bB<|eV<|mH ?_;refine aP (tH (Z:=fun n1 out l c i=>mO n n1 out i=some R) (Of:=fun out l c i=>[ga cx 3 l c out]) (Gf:=fun out l c i=>[(0,cb n),(3,oP l c out),(4,cb i)]) (fun out l c i h=>nn h) (fun n1 ih out l c i h=>?_) cZ oq none 0 (0:Int) h) (bg J);refine aB<|ac<|aw<|aE J<|aE J<|zo J (ft J J)<|au<|cE h J (fun h=>?_) (fun h=>?_)
 ·refine dz<|ac<|ax<|am<|aE J<|aE J<|zo J (aN (r:=cx) (ys:=[i]) (xs:=[.tmp 11]) dc bA J J J J J ⟨(ht J),aT⟩)<|bz h fun cv q_out1 h=>cK bA J J J J dc J J (ht J) (ht J) q_out1 fun l1 c1=>bu J<|aJ<|an<|aq<|am<|aE rfl<|zo rfl (ei (ht rfl) hI)<|bu rfl<|aJ ?_;exact be (aP (ih cv l1 c1 (IntKind.i64.wrap (i+(1:Int))) h) (bg J))
 ·refine bp ?_;refine ae (ae (aK ?_));refine aq<|aw<|aE rfl<|bu rfl<|au<|ak ?_;cases so h;exact jd J J
theorem LK(n:Int){R:(List Int)}(h:oy n=some R):bo bl 121 [cb n] (dI R):=(I4 _ h).spec

theorem R6(n:af)(kinds:(List Int))(s:bI){R:bI}(h:uE n kinds s=some R):bo bl 119 [tD ah n,dI kinds,tD aW s] (tD aW R):=by
 refine bo.of Tryz.func119 J J J fun w0 S0=>aw<|kO (ht J) J fun b=>kO (ht J) J fun b1=>bj (r:=aW) (x:=qX) bW (fun _=>jo _) J fun b2=>au<|ac<|aw<|zo J (dy 3 nq J J J)<|zo J (aA yK J J kX (.tail _ (.head _)) (ht J))<|au<|cE h J (fun h=>?_) (fun h=>?_)
 ·refine aw<|zo J (aA cz J J aR (.tail _ (.tail _ (.head _))) (ht J))<|aE J<|zo J (aA bW J J aR (.tail _ (.head _)) (ht J))<|bz h fun r q_r h=>zo J (aC y7 (rU _ _ _ q_r) ⟨(ht J),(ht J),(ht J),aT⟩)<|bL<|ai bW J aj J (ht J) (ht J)<|au<|aw<|zo J (dy 4 kL J J J)<|ai cD J oV J (ht J) jr<|au<|aw<|zo J (aA (x:=(bI.mk r.Frags r.Nodes r.Kinds r.One ([]))) bW J J aR (.head _) (ht J))<|bL<|ai bW J aj J (ht J) (ht J)<|au ?_;refine ak<|M<|bH 6 J<|aL<|aL ?_;cases so h;exact dF J bW J J J
 ·refine dz<|ac<|aw<|zo J (dy 4 kL J J J)<|zo J (aA cD J J mW (.tail _ (.head _)) (ht J))<|zo J (dy 7 jP J J J)<|zo J (aA cD J J d8 (.tail _ (.tail _ (.head _))) (ht J))<|bz h fun r1 q_r1 h=>zo J (aC LX (Db _ _ q_r1) ⟨(ht J),(ht J),aT⟩)<|aE J<|zo J (kG J J)<|zo J (kG J J)<|bu J<|bu J<|au<|aw<|aE J<|au<|cE h J (fun h=>?_) (fun h=>?_)
  ·refine aw<|zo J (aA cz J J aR (.tail _ (.tail _ (.head _))) (ht J))<|aE J<|zo J (aA bW J J aR (.tail _ (.head _)) (ht J))<|bz h fun r2 q_r2 h=>zo J (aC y7 (rU _ _ _ q_r2) ⟨(ht J),(ht J),(ht J),aT⟩)<|bL<|ai bW J aj J (ht J) (ht J)<|au<|aw<|aE J<|zo J (dy 4 kL J J J)<|ai cD J oV J (ht J) (ht J)<|au<|aw<|zo J (aA (x:=(bI.mk r2.Frags r2.Nodes r2.Kinds r2.One r1.1)) bW J J aR (.head _) (ht J))<|bL<|ai bW J aj J (ht J) (ht J)<|aJ ?_;refine aq<|ak<|M<|bH 6 rfl<|aL<|aL ?_;cases so h;exact dF J bW J J J
  ·refine dz<|aw<|cd false cx 3<|zo J (aU s6)<|au<|ac<|aw<|zo J (dB)<|au<|ax<|br (k:=1) J fun hN=>bB<|eV<|iJ<|ph<|ph ?_;refine aP (lZ (Z:=fun ls i under l c=>(kinds.drop i=ls)∧gy n kinds s ls i under=some R) (Of:=fun _ i under l c=>[ga cx 3 l c under,bx ah 72 b n,bx aW 102 b1 s,bx aW 102 b2 qX]) (Gf:=fun _ i under l c=>[(1,dI kinds),(3,tV (aM b 0)),(5,tV (aM b1 0)),(6,tV (aM b2 0)),(9,oP l c under),(10,cb (i:Int))]) (fun i under l c h=>?_) (fun e tl ih i under l c h=>?_) kinds 0 oq none 0 ⟨J,h⟩) (bg J)
   ·obtain⟨hx,h⟩:=h
    refine aB<|ac<|aw<|aE J<|aE J<|zo J (fW dc J)<|zo J (ft J J)<|au<|bP (ht J) (dU hx)<|bp ?_;refine ae (ae (aK ?_));refine aq<|aw<|zo rfl (dy 7 jP rfl rfl rfl)<|zo rfl (aA cD rfl rfl d8 (.tail _ (.head _)) (ht rfl))<|zo rfl (fW dc rfl)<|bz h fun r3 q_r3 h=>lY Qb (I4 _ q_r3) ⟨(ht J),aT⟩ J fun l1 c1=>m8<|lk 74 J<|cd true dP 78<|zo J (cm (y:=jz (⟨(11:Int),(0:Int),(0:Int),(0:Int),[],false,nD,r3,[],[],[],(0:Int)⟩:af) Qz) cz Nm vT (⟨_,_,_,_,_,J,Ak,J,hI,⟨_,_,_,_,_,J,Aj,J,(kT (ht J)),J⟩⟩))<|cd true dP 78<|bj (r:=iW) (x:=jz zk Qz) cz vT J fun b3=>c0<|bL<|kw cz J (nL J) J (ht J) (ht J)<|c0<|Dd<|au<|ac<|aw ?_;refine zo J (dB)<|au<|ax<|bB<|iJ<|mH<|eV<|eV<|kY<|kY<|kY<|kY ?_;refine aP (tH (Z:=fun n1 i1 last l2 c2=>jN n kinds s under n1 i1 last=some R) (Of:=fun i1 last l2 c2=>[ga cx 3 l c under,bx ah 72 b n,bx aW 102 b1 s,bx aW 102 b2 qX,bx iW 72 b3 (jz last (aV l2 c2 last.Aggs.length)),tip dP 78 l2 c2 last.Aggs]) (Gf:=fun i1 last l2 c2=>[(1,dI kinds),(3,tV (aM b 0)),(5,tV (aM b1 0)),(6,tV (aM b2 0)),(9,oP l c under),(12,tV (aM b3 0)),(13,cb i1)]) (fun i1 last l2 c2 h=>nn h) (fun n1 ih1 i1 last l2 c2 h=>?_) cZ (0:Int) ({(⟨(11:Int),(0:Int),(0:Int),(0:Int),[],false,nD,r3,[],[],[],(0:Int)⟩:af)with Aggs:=N5}:af) none 0 h) (bg J);refine aB<|ac<|aw<|aE J<|zo J (dy 8 io J J J)<|zo J (aA pr J J ek (.tail _ (.head _)) (ht J))<|zo J (fW nC J)<|zo J (ft J J)<|au<|cE h J (fun h=>?_) (fun h=>?_)
    ·refine dz<|ac<|ax<|bz h fun e1 q_e1 h=>?_
     refine iL 10 (ts:=[tV (aM b3 8),tO dP l2 c2 last.Aggs,tV (aM b 8),fc (dP) n.Aggs,cb i1,bt dP e1,bt cx e1.Tag,cb e1.Tag,tD dP (⟨e1.Tag,nD⟩:ip),fc (dP) ([(⟨e1.Tag,nD⟩:ip)])]) mixed J J J
      ⟨ef 12 J J J (dy 8 io J J J),
      ⟨cT 83 0 J J J (o7 pr AM (.tail _ (.tail _ (.tail _ (.tail _ (.head _))))) (.tail _ (.tail _ (.tail _ (.tail _ (.tail _ (.head _)))))) J (ht J)),
      ⟨ef 3 J J J (dy 8 io J J J),
      ⟨cT 85 2 J J J (aA pr J J ek (.tail _ (.head _)) (ht J)),
      ⟨ef 13 J J J (cG J),
      ⟨dG 86 3 87 4 J J J J (iQ nC nX J J J q_e1),
      ⟨cT 88 5 J J J (bD rt mX J J),
      ⟨cT 89 6 J J J (bm bA J J),
      ⟨cT 90 7 J J J (cm (y:=(⟨e1.Tag,nD⟩:ip)) nX T9 zi (⟨_,_,_,_,_,J,DE,J,(ht J),J⟩)),
      ⟨cT 91 8 J J J (aN (r:=dP) (ys:=[(⟨e1.Tag,nD⟩:ip)]) (xs:=[.tmp 91]) nC nX J J J J J ⟨(ht J),aT⟩),
      aT⟩⟩⟩⟩⟩⟩⟩⟩⟩⟩ ?_
     refine ry<|bz h fun l3 q_l3 h=>my nX J J J J nC J J (ht J) (ht J) q_l3 fun l4 c3=>zo J (dy 8 io J J J)<|ry<|kw pr J (sf _ _ _) J (ht J) (N1 (Bl (ht J)))<|aJ<|an<|aq<|am<|aE rfl<|zo rfl (ei (ht rfl) hI)<|bu rfl<|aJ<|bE<|bE<|cq<|cq<|cq<|cq ?_;exact be (aP (ih1 (IntKind.i64.wrap (i1+(1:Int))) ({last with Aggs:=l3}:af) l4 c3 h) (bg J))
    ·refine bp ?_;refine ae (ae (aK ?_));refine aq<|aw<|zo rfl (dy 0 lh rfl rfl rfl)<|bL<|ai bA rfl ra rfl (ht rfl) hI<|au<|aw<|zo rfl (dB)<|au ?_;refine dD (Z:=fun way=>iZ n kinds s under last way=some R) (Of:=fun way=>[ga cx 3 l c under,bx ah 72 b (af.mk (10:Int) n.A n.B n.Table n.Kinds n.Left n.Cond n.Keys n.Aggs n.Items n.Order n.Limit),bx aW 102 b1 s,bx aW 102 b2 qX,bx iW 72 b3 (jz last (aV l2 c2 last.Aggs.length)),tip dP 78 l2 c2 last.Aggs]) (Gf:=fun way=>[(1,dI kinds),(3,tV (aM b 0)),(5,tV (aM b1 0)),(6,tV (aM b2 0)),(9,oP l c under),(12,tV (aM b3 0)),(14,cb way)]) (fun way h=>?_) (fun K=>?_)
     ·skip
      refine ac<|vO<|uv 9 J<|bz h fun r4 q_r4 h=>bz h fun r5 q_r5 h=>bz h fun r6 q_r6 h=>?_
      refine iL 10 (ts:=[tD ah (af.mk (10:Int) n.A n.B n.Table n.Kinds n.Left n.Cond n.Keys n.Aggs n.Items n.Order n.Limit),tO cx l c under,tD aW s,tD aW r4,cb way,tV (aM b 7),dI n.Keys,jV n.Keys,dI r5,tD aW r6]) mixed J J J
       ⟨ef 3 J J J (aA (x:=(af.mk (10:Int) n.A n.B n.Table n.Kinds n.Left n.Cond n.Keys n.Aggs n.Items n.Order n.Limit)) cz J J aR (.tail _ (.head _)) (ht J)),
       ⟨ef 9 J J J (cG J),
       ⟨ef 5 J J J (aA bW J J aR (.tail _ (.tail _ (.head _))) (ht J)),
       ⟨wK 100 0 101 1 102 2 J J J J J (aC y7 (rU _ _ _ q_r4) ⟨(ht J),(kT (ht J)),(ht J),aT⟩),
       ⟨ef 14 J J J (cG J),
       ⟨ef 3 J J J (dy 7 jP J J J),
       ⟨cT 105 5 J J J (aA (x:=(af.mk (10:Int) n.A n.B n.Table n.Kinds n.Left n.Cond n.Keys n.Aggs n.Items n.Order n.Limit)) cD J J d8 (.tail _ (.head _)) (ht J)),
       ⟨cT 106 6 J J J (fW dc J),
       ⟨cT 107 7 J J J (aC Qb (LK _ q_r5) ⟨(ht J),aT⟩),
       ⟨wK 103 3 104 4 108 8 J J J J J (aC Jc (xQ _ _ _ q_r6) ⟨(ht J),(ht J),(ht J),aT⟩),
       aT⟩⟩⟩⟩⟩⟩⟩⟩⟩⟩ ?_
      refine c0<|ai bW J aj J (ht J) (ht J)<|au<|aw<|ry<|zo J (pZ (q:=ah) (y:=last) cz J J J J (.tail _ (.tail _ (.tail _ (.tail _ (.tail _ (.head _)))))) (fun _ _ _ ho h=>wQ (uP ho (.head _)) h) (ht J))<|aE J<|zo J (aA bW J J aR (.tail _ (.head _)) (ht J))<|bz h fun r7 q_r7 h=>zo J (aC y7 (rU _ _ _ q_r7) ⟨(ht J),(ht J),(ht J),aT⟩)<|jD<|ai bW J aj J (ht J) (ht J)<|au<|ak<|bH 6 J<|aL<|aL<|aL<|aL<|aL ?_;cases so h;exact dF J bW J J J
     ·skip
      refine aw<|zo J (dy 7 jP J J J)<|zo J (aA (x:=(af.mk (10:Int) n.A n.B n.Table n.Kinds n.Left n.Cond n.Keys n.Aggs n.Items n.Order n.Limit)) cD J J d8 (.head _) (ht J))<|zo J (fW dc J)<|zo J (iz J)<|au<|cE h J (fun h=>?_) (fun h=>?_)
      ·refine am<|zo J (dB)<|aJ<|cq<|cq<|cq<|cq<|dq<|cq ?_;exact bJ (K (3:Int) h) (bg J)
      ·refine bk<|cq<|cq<|cq<|cq<|dq<|cq ?_;exact bJ (K (1:Int) h) (bg J)
   ·obtain⟨hx,h⟩:=h
    refine aB<|ac<|aw<|aE J<|aE J<|zo J (fW dc J)<|zo J (ft J J)<|au<|bO (ht J) (dN hx)<|dz<|ac<|ax<|aw<|aE J<|aE J<|zo J (iQ dc bA J J J (dO hx))<|zo J (bm bA J J)<|bu J<|au ?_;refine dD (Z:=fun k=>ox (gy n kinds s tl) i under k=some R) (Of:=fun k=>[ga cx 3 l c under,bx ah 72 b n,bx aW 102 b1 s,bx aW 102 b2 qX]) (Gf:=fun k=>[(1,dI kinds),(3,tV (aM b 0)),(5,tV (aM b1 0)),(6,tV (aM b2 0)),(9,oP l c under),(10,cb (i:Int)),(11,cb k)]) (fun k h=>?_) (fun K1=>?_)
    ·skip
     refine am<|aE J<|aE J<|zo J (aN (r:=cx) (ys:=[k]) (xs:=[.tmp 68]) dc bA J J J J J ⟨(ht J),aT⟩)<|bz h fun under1 q_under1 h=>cK bA J J J J dc J J (ht J) (ht J) q_under1 fun l5 c4=>bu J<|aJ<|an<|aq<|am<|aE rfl<|zo rfl (nh (dm hx hN) rfl)<|bu rfl<|aJ ?_;exact be (aP (ih (i+1) under1 l5 c4 ⟨dl hx,h⟩) (bg J))
    ·skip
     refine aw<|aE J<|zo J (dy 7 jP J J J)<|zo J (aA cD J J d8 (.tail _ (.head _)) (ht J))<|zo J (fW dc J)<|zo J (cU (ht J) (ht J))<|aE J<|bz h fun t q_t h=>bX J J (fun hg=>dy 8 io J J J)<|bX J J (fun hg=>aA pr J J ek (.tail _ (.head _)) (aS J hg))<|bX J J (fun hg=>cG J)<|bX J J (fun hg=>dy 7 jP J J J)<|bX J J (fun hg=>aA cD J J d8 (.tail _ (.head _)) (aS J hg))<|bX J J (fun hg=>bU dc (aS J hg))<|bX J J (fun hg=>dL (aS J hg) (aS J hg)) ?_
     obtain⟨e2,h1t,h0t⟩:=og q_t
     have q_e2g:=fun hb=>(h1t hb).1
     refine bX J J (fun hg=>aQ nC nX J (aS J hg) (aS J hg) (q_e2g hg))<|bX J J (fun hg=>d6 rt J mX J (aS J hg))<|bX J J (fun hg=>aI bA J J (aS J hg))<|bX J J (fun hg=>cw (aS J hg) hI)<|zo J (cS (ht J) (fun hb=>(aS J hb)) (fun hb=>(h1t hb).2) h0t)<|au<|cE h J (fun h=>?_) (fun h=>?_)
     ·refine am<|zo J (dB)<|aJ ?_;exact bJ (K1 (4:Int) h) (bg J)
     ·refine bk ?_;exact bJ (K1 e h) (bg J)

theorem Uj(n:af)(kinds:(List Int))(c:ce)(a1:bI)(b:bI){R:bI}(h:dW n kinds c a1 b=some R):bo bl 79 [tD ah n,dI kinds,tD da c,tD aW a1,tD aW b] (tD aW R):=by
 refine bo.of Tryz.func79 J J J fun w0 S0=>aw<|zo J (jt J)<|zo J (jt J)<|kO (ht J) J fun b1=>kO (ht J) J fun b2=>bj (r:=aW) (x:=qX) bW (fun _=>jo _) J fun b3=>au<|ac<|aw<|zo J (bD lh eP J J)<|zo J (bm bA J J)<|au<|ax<|aw<|zo J (iz J)<|bu J<|au ?_;refine cE h J (fun h=>?_) (fun h=>?_)
 ·refine ac<|bz h fun e q_e h=>?_
  refine iL 11 (ts:=[tD ah n,fc (ah) ([n]),dI kinds,bt (fH di) c.Tables,fc (di) c.Tables,bt cx n.Table,cb n.Table,bt di e,bt gG e.Keys,dI e.Keys,tD aW (⟨[],[n],kinds,false,e.Keys⟩:bI)]) mixed J J J
   ⟨ef 5 J J J (bm cz J J),
   ⟨cT 21 0 J J J (aN (r:=ah) (ys:=[n]) (xs:=[.tmp 21]) om cz J J J J J ⟨(ht J),aT⟩),
   ⟨ef 1 J J J (cG J),
   ⟨ef 7 J J J (bD oM eM J J),
   ⟨cT 24 3 J J J (bm xi J J),
   ⟨ef 5 J J J (bD oL hZ J J),
   ⟨cT 26 5 J J J (bm bA J J),
   ⟨dG 25 4 27 6 J J J J (iQ ux se J J J q_e),
   ⟨cT 28 7 J J J (bD vo mq J J),
   ⟨cT 29 8 J J J (bm cD J J),
   ⟨wK 22 1 23 2 30 9 J J J J J (cm (y:=(⟨[],[n],kinds,false,e.Keys⟩:bI)) bW Lx jo (⟨_,_,_,_,_,J,yi,J,(ht J),⟨_,_,_,_,_,J,Bp,J,(ht J),⟨_,_,_,_,_,J,oV,J,(ht J),J⟩⟩⟩)),
   aT⟩⟩⟩⟩⟩⟩⟩⟩⟩⟩⟩ ?_
  refine ai bW J aj J (ht J) (ht J)<|au<|ak ?_;refine ay (M ?_);refine bH 10 J<|aL<|aL ?_;cases so h;exact dF J bW J J J
 ·refine aw<|zo J (iz J)<|bu J<|au<|cE h J (fun h=>?_) (fun h=>?_)
  ·refine aw<|zo J (bm cz J J)<|aE J<|zo J (aA bW J J aR (.tail _ (.tail _ (.head _))) (ht J))<|zo J (aA bW J J aR (.tail _ (.head _)) (ht J))<|bz h fun r q_r h=>zo J (aC XG (R7 _ _ _ _ q_r) ⟨(ht J),(ht J),(ht J),(ht J),aT⟩)<|ai bW J aj J (ht J) (ht J)<|au<|ak ?_;refine ay (M ?_);refine bH 10 J<|aL<|aL ?_;cases so h;exact dF J bW J J J
  ·refine aw<|zo J (iz J)<|bu J<|au<|cE h J (fun h=>?_) (fun h=>?_)
   ·refine aw<|zo J (bm cz J J)<|aE J<|zo J (aA bW J J aR (.tail _ (.tail _ (.head _))) (ht J))<|bz h fun r1 q_r1 h=>zo J (aC y7 (rU _ _ _ q_r1) ⟨(ht J),(ht J),(ht J),aT⟩)<|ai bW J aj J (ht J) (ht J)<|au<|ak ?_;refine ay (M ?_);refine bH 10 J<|aL<|aL ?_;cases so h;exact dF J bW J J J
   ·refine aw<|zo J (iz J)<|bu J<|au<|cE h J (fun h=>?_) (fun h=>?_)
    ·refine aw<|zo J (bm cz J J)<|aE J<|zo J (aA bW J J aR (.tail _ (.tail _ (.head _))) (ht J))<|bz h fun r2 q_r2 h=>zo J (aC XF (R6 _ _ _ q_r2) ⟨(ht J),(ht J),(ht J),aT⟩)<|ai bW J aj J (ht J) (ht J)<|au<|ak ?_;refine ay (M ?_);refine bH 10 J<|aL<|aL ?_;cases so h;exact dF J bW J J J
    ·refine aw<|zo J (iz J)<|bu J<|au<|cE h J (fun h=>?_) (fun h=>?_)
     ·refine aw<|cd false cx 3<|zo J (aU s6)<|au<|ac<|aw<|zo J (dB)<|au<|ax<|bB<|iJ<|mH<|eV<|iJ<|iJ ?_;refine aP (tH (Z:=fun n1 bare l c1 i=>gH n kinds a1 n1 bare i=some R) (Of:=fun bare l c1 i=>[ga cx 3 l c1 bare,bx aW 102 b1 a1,bx aW 102 b3 qX]) (Gf:=fun bare l c1 i=>[(1,dI kinds),(5,bt ah n),(8,tV (aM b1 0)),(10,tV (aM b3 0)),(11,oP l c1 bare),(12,cb i)]) (fun bare l c1 i h=>nn h) (fun n1 ih bare l c1 i h=>?_) cZ oq none 0 (0:Int) h) (bg J);refine aB<|ac<|aw<|aE J<|zo J (bD lg fN J J)<|zo J (bm te J J)<|zo J (fW nc J)<|zo J (ft J J)<|au<|cE h J (fun h=>?_) (fun h=>?_)
      ·refine dz<|ac<|ax<|aw<|zo J (dB)<|au ?_;refine dD (Z:=fun k=>mg (gH n kinds a1 n1) bare i k=some R) (Of:=fun k=>[ga cx 3 l c1 bare,bx aW 102 b1 a1,bx aW 102 b3 qX]) (Gf:=fun k=>[(1,dI kinds),(5,bt ah n),(8,tV (aM b1 0)),(10,tV (aM b3 0)),(11,oP l c1 bare),(12,cb i),(13,cb k)]) (fun k h=>?_) (fun K=>?_)
       ·skip
        refine am<|aE J<|aE J<|zo J (aN (r:=cx) (ys:=[k]) (xs:=[.tmp 90]) dc bA J J J J J ⟨(ht J),aT⟩)<|bz h fun bare1 q_bare1 h=>cK bA J J J J dc J J (ht J) (ht J) q_bare1 fun l1 c2=>bu J<|aJ<|an<|aq<|am<|aE rfl<|zo rfl (ei (ht rfl) hI)<|bu rfl<|aJ ?_;exact be (aP (ih bare1 l1 c2 (IntKind.i64.wrap (i+(1:Int))) h) (bg J))
       ·skip
        refine aw<|zo J (bD lg fN J J)<|zo J (bm te J J)<|aE J<|bz h fun e1 q_e1 h=>zo J (iQ nc eN J J J q_e1)<|zo J (bD de bZ J J)<|zo J (bm ir J J)<|zo J (fW oo J)<|zo J (iz J)<|aE J<|bz h fun t q_t h=>bX J J (fun hg=>bD lg fN J J)<|bX J J (fun hg=>aI te J J (aS J hg))<|bX J J (fun hg=>cG J)<|bX J J (fun hg=>aQ nc eN J (aS J hg) (aS J hg) q_e1)<|bX J J (fun hg=>d6 de J bZ J (aS J hg))<|bX J J (fun hg=>aI ir J J (aS J hg)) ?_
        obtain⟨e2,h1t,h0t⟩:=og q_t
        have q_e2g:=fun hb=>(h1t hb).1
        refine bX J J (fun hg=>aQ oo cR J (aS J hg) hI (q_e2g hg))<|bX J J (fun hg=>d6 fV J dd J (aS J hg))<|bX J J (fun hg=>aI bA J J (aS J hg))<|bX J J (fun hg=>cw (aS J hg) hI)<|zo J (cS (ht J) (fun hb=>(aS J hb)) (fun hb=>(h1t hb).2) h0t)<|au<|cE h J (fun h=>?_) (fun h=>?_)
        ·refine am<|zo J (bD lg fN J J)<|zo J (bm te J J)<|aE J<|zo J (iQ nc eN J J J q_e1)<|zo J (bD de bZ J J)<|zo J (bm ir J J)<|bz h fun e3 q_e3 h=>zo J (aQ oo cR J (ht J) hI q_e3)<|zo J (bD j7 eQ J J)<|zo J (bm bA J J)<|bu J<|aJ ?_;exact bJ (K e3.Col h) (bg J)
        ·refine bk ?_;exact bJ (K mK h) (bg J)
      ·refine bp ?_;refine ae (ae (aK ?_));refine aq<|aw<|zo rfl (bm cz rfl rfl)<|aE rfl<|zo rfl (aA bW rfl rfl aR (.tail _ (.head _)) (ht rfl))<|bz h fun r3 q_r3 h=>zo J (aC y7 (rU _ _ _ q_r3) ⟨(ht J),(ht J),(ht J),aT⟩)<|bj (r:=aW) (x:=qX) bW (fun _=>jo _) J fun b4=>ai bW J aj J (ht J) (ht J)<|au<|aw<|zo J (dy 4 kL J J J)<|zo J (aA cD J J mW (.tail _ (.tail _ (.head _))) (ht J))<|aE J<|bL<|m8<|lk 11 J<|lk 100 J<|bz h fun r4 q_r4 h=>zo J (aC LX (Db _ _ q_r4) ⟨(ht J),(kT (ht J)),aT⟩)<|aE J ?_;refine zo J (kG J J)<|zo J (kG J J)<|zo J (dy 4 kL J J J)<|bL<|ai cD J oV J (ht J) (ht J)<|au<|aw<|zo J (aA (x:=(bI.mk r3.Frags r3.Nodes r3.Kinds r3.One r4.1)) bW J J aR (.head _) (ht J))<|dC<|ai bW J aj J (ht J) (ht J)<|au<|ak ?_;refine ay (M ?_);refine bH 10 J<|aL<|aL<|aL ?_;cases so h;exact dF J bW J J J
     ·refine aw<|zo J (iz J)<|bu J<|au<|cE h J (fun h=>?_) (fun h=>?_)
      ·refine ac<|aw<|zo J (dy 3 nq J J J)<|zo J (aA yK J J kX (.tail _ (.tail _ (.head _))) (ht J))<|aE J<|ci J J (fun hg=>dy 4 kL J J J)<|ci J J (fun hg=>aA cD J J mW (.tail _ (.tail _ (.head _))) (aS J hg))<|ci J J (fun hg=>bU dc (aS J hg))<|ci J J (fun hg=>d5 (aS J hg) hI)<|zo J (nW J J)<|au<|cE h J (fun h=>?_) (fun h=>?_)
       ·refine aw<|zo J (bm cz J J)<|aE J<|zo J (aA bW J J aR (.tail _ (.tail _ (.head _))) (ht J))<|bz h fun r5 q_r5 h=>zo J (aC y7 (rU _ _ _ q_r5) ⟨(ht J),(ht J),(ht J),aT⟩)<|ai bW J aj J (ht J) (ht J)<|au<|ak ?_;refine M (ay (M ?_));refine bH 10 J<|aL<|aL ?_;cases so h;exact dF J bW J J J
       ·refine dz<|ac<|bz h fun r6 q_r6 h=>bz h fun r7 q_r7 h=>bz h fun r8 q_r8 h=>?_
        refine iL 8 (ts:=[tD ah n,dI kinds,tD aW a1,dI kinds,jV kinds,dI r6,tD aW r7,tD aW r8]) mixed J J J
         ⟨ef 5 J J J (bm cz J J),
         ⟨ef 1 J J J (cG J),
         ⟨ef 8 J J J (aA bW J J aR (.tail _ (.tail _ (.head _))) (ht J)),
         ⟨ef 1 J J J (cG J),
         ⟨cT 123 3 J J J (fW dc J),
         ⟨cT 124 4 J J J (aC Qb (LK _ q_r6) ⟨(ht J),aT⟩),
         ⟨dG 122 2 125 5 J J J J (aC Jc (xQ _ _ _ q_r7) ⟨(ht J),hI,(ht J),aT⟩),
         ⟨wK 120 0 121 1 126 6 J J J J J (aC y7 (rU _ _ _ q_r8) ⟨(ht J),(ht J),(ht J),aT⟩),
         aT⟩⟩⟩⟩⟩⟩⟩⟩ ?_
        refine ai bW J aj J (ht J) (ht J)<|au<|ak ?_;refine ay (M ?_);refine bH 10 J<|aL<|aL ?_;cases so h;exact dF J bW J J J
      ·refine aw<|zo J (iz J)<|bu J<|au<|cE h J (fun h=>?_) (fun h=>?_)
       ·refine yC (Z:=fun a2 b5=>jK n kinds a2 b5=some R) (Of:=fun a2 b5=>[bx aW 102 b1 a2,bx aW 102 b2 b5,bx aW 102 b3 qX]) (Gf:=fun a2 b5=>[(1,dI kinds),(5,bt ah n),(8,tV (aM b1 0)),(9,tV (aM b2 0)),(10,tV (aM b3 0))]) (fun a2 b5 h=>?_) (fun K1=>?_)
        ·skip
         refine aw<|zo J (bm cz J J)<|aE J<|zo J (aA bW J J aR (.head _) (ht J))<|zo J (aA bW J J aR (.tail _ (.head _)) (ht J))<|bz h fun r9 q_r9 h=>zo J (aC LW (Da _ _ _ _ q_r9) ⟨(ht J),(ht J),(ht J),(ht J),aT⟩)<|bj (r:=aW) (x:=qX) bW (fun _=>jo _) J fun b6=>ai bW J aj J (ht J) (ht J)<|au ?_;refine dD (Z:=fun s=>vg s=some R) (Of:=fun s=>[bx aW 102 b3 qX,bx aW 102 b6 s]) (Gf:=fun s=>[(10,tV (aM b3 0)),(15,tV (aM b6 0))]) (fun s h=>?_) (fun K2=>?_)
         ·skip
          refine aw<|zo J (aA bW J J aR (.tail _ (.head _)) (ht J))<|ai bW J aj J (ht J) (ht J)<|au<|ak ?_;refine ay (M ?_);refine bH 10 J<|aL ?_;cases so h;exact dF J bW J J J
         ·skip
          refine aw<|zo J (dy 3 nq J J J)<|zo J (aA yK J J kX (.tail _ (.head _)) (ht J))<|zo J (dh (ht J))<|aE J<|bz h fun t1 q_t1 h=>bX J J (fun hg=>dy 4 kL J J J)<|bX J J (fun hg=>aA cD J J mW (.tail _ (.head _)) (aS J hg))<|bX J J (fun hg=>dy 4 kL J J J)<|bX J J (fun hg=>aA cD J J mW (.tail _ (.tail _ (.head _))) (aS J hg)) ?_
          obtain⟨r10,h1t1,h0t1⟩:=og q_t1
          have q_r10g:=fun hb=>(h1t1 hb).1
          refine bX J J (fun hg=>aC PV (Ej _ _ (q_r10g hg)) ⟨(aS J hg),(aS J hg),aT⟩)<|zo J (cS (ht J) (fun hb=>(aS J hb)) (fun hb=>(h1t1 hb).2) h0t1)<|au<|cE h J (fun h=>?_) (fun h=>?_)
          ·refine am<|zo J (dy 4 kL J J J)<|zo J (aA cD J J mW (.tail _ (.head _)) (ht J))<|zo J (dy 4 kL J J J)<|ai cD J oV J (ht J) (ht J)<|aJ<|bE<|aL<|bE<|aL<|bE ?_;exact bJ (K2 (bI.mk r9.Frags r9.Nodes r9.Kinds r9.One a2.Hashed) h) (bg J)
          ·refine bk<|bE<|aL<|bE<|aL<|bE ?_;exact bJ (K2 r9 h) (bg J)
        ·skip
         refine aw<|zo J (dy 3 nq J J J)<|zo J (aA yK J J kX (.tail _ (.tail _ (.head _))) (ht J))<|zo J (dy 3 nq J J J)<|zo J (aA yK J J kX (.tail _ (.head _)) (ht J))<|zo J (Ln K9 (ht J) (ht J))<|au<|cE h J (fun h=>?_) (fun h=>?_)
         ·refine aw<|zo J (dy 3 nq J J J)<|zo J (aA yK J J kX (.tail _ (.tail _ (.head _))) (ht J))<|zo J (dh (ht J))<|au<|cE h J (fun h=>?_) (fun h=>?_)
          ·refine aw<|zo J (dy 0 ic J J J)<|zo J (aA jh J J iG (.tail _ (.head _)) (ht J))<|zo J (dy 0 ic J J J)<|c0<|ai jh J lA J (ht J) (ht J)<|au<|aw<|zo J (aA (x:=(bI.mk b.Frags a1.Nodes a1.Kinds a1.One a1.Hashed)) bW J J aR (.head _) (ht J))<|bz h fun r11 q_r11 h=>zo J (aC ND (BI _ q_r11) ⟨(ht J),aT⟩)<|ai bW J aj J (ht J) (ht J)<|au<|am<|zo J (dy 0 ic J J J)<|zo J (aA jh J J iG (.head _) (ht J))<|zo J (dy 0 ic J J J)<|c0<|ai jh J lA J (ht J) (ht J)<|aJ ?_;refine aD<|bE<|aD ?_;exact bJ (K1 r11 (bI.mk r11.Frags b.Nodes b.Kinds b.One b.Hashed) h) (bg J)
          ·refine am<|zo J (aA bW J J aR (.tail _ (.head _)) (ht J))<|bz h fun r12 q_r12 h=>zo J (aC ND (BI _ q_r12) ⟨(ht J),aT⟩)<|bL<|ai bW J aj J (ht J) (ht J)<|aJ<|bE<|bE<|aD ?_;exact bJ (K1 a1 r12 h) (bg J)
         ·refine bk<|bE<|aD ?_;exact bJ (K1 a1 b h) (bg J)
       ·refine bk<|an<|aq<|aw<|zo rfl (bm cz rfl rfl)<|aE rfl<|zo rfl (aA bW rfl rfl aR (.tail _ (.tail _ (.head _))) (ht rfl))<|bz h fun r13 q_r13 h=>zo J (aC y7 (rU _ _ _ q_r13) ⟨(ht J),(ht J),(ht J),aT⟩)<|bj (r:=aW) (x:=qX) bW (fun _=>jo _) J fun b7=>ai bW J aj J (ht J) (ht J)<|au<|aw<|zo J (dy 4 kL J J J)<|ai cD J oV J (ht J) jr<|au<|ac<|aw<|zo J (dy 3 nq J J J) ?_;refine zo J (aA yK J J kX (.tail _ (.tail _ (.tail _ (.head _)))) (ht J))<|au<|cE h J (fun h=>?_) (fun h=>?_)
        ·refine aw<|zo J (aA (x:=(bI.mk r13.Frags r13.Nodes r13.Kinds r13.One ([]))) bW J J aR (.head _) (ht J))<|bL<|ai bW J aj J (ht J) (ht J)<|au<|ak<|M<|bH 10 J<|aL<|aL<|aL ?_;cases so h;exact dF J bW J J J
        ·refine dz<|ac<|bz h fun r14 q_r14 h=>bz h fun r15 q_r15 h=>?_
         refine iL 5 (ts:=[tD ah n,dI kinds,tD aW (bI.mk r13.Frags r13.Nodes r13.Kinds r13.One ([])),tD aW r14,tD aW r15]) mixed J J J
          ⟨ef 5 J J J (bm cz J J),
          ⟨ef 1 J J J (cG J),
          ⟨ef 16 J J J (aA (x:=(bI.mk r13.Frags r13.Nodes r13.Kinds r13.One ([]))) bW J J aR (.head _) (ht J)),
          ⟨cT 177 2 J J J (aC ND (BI _ q_r14) ⟨(ht J),aT⟩),
          ⟨wK 175 0 176 1 178 3 J J J J J (aC y7 (rU _ _ _ q_r15) ⟨(ht J),(ht J),(ht J),aT⟩),
          aT⟩⟩⟩⟩⟩ ?_
         refine bL<|ai bW J aj J (ht J) (ht J)<|au<|ak<|bH 10 J<|aL<|aL<|aL ?_;cases so h;exact dF J bW J J J

end Go.Proofs.YtnmjbolollcokaaGreatDoor

