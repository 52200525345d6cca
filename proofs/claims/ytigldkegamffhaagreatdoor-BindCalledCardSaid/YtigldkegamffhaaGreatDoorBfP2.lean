/- de of this claim: P2. -/
import Derived.Test.YtigldkegamffhaaGreatDoorBfT
import Derived.Test.YtigldkegamffhaaGreatDoorBfP1
set_option linter.all false
namespace Go.Proofs.YtigldkegamffhaaGreatDoor
open Go
set_option maxRecDepth 100000

def Zi t{R}(h:sm t=some R):dZ aY 94 [K aX t] (br R):=by
 refine fc Tryz.func94 I<|bA<|eA I<|dg<|co<|bN<|d5 ic I<|jE h abY (Xh _) (gm I) fun r h=>bC I<|fI I I<|fI I I<|lI I<|bP I<|aQ I<|Q (m9 (M I)) ?_;refine eK h I (fun h=>?_) (fun h=>?_)
 ·exact bA<|iG<|an<|so h▸aT I I
 ·exact nG<|bA<|iG<|so h▸aT I I

def Zj t{R}(h:vD t=some R):dZ aY 93 [K aX t] (mb R):=by
 exact fc Tryz.func93 I<|bA<|eA I<|cJ<|co<|bA<|d5 ic I<|jE h acR (Zi _) (gm I) fun r h=>mp I<|bF I<|so h▸aT I I

def Pm l{R}(h:uf l=some R):dZ aY 71 [jo (aX) l] (mb R):=by
 exact fc Tryz.func71 I<|bA<|cJ<|co<|aQ I<|jE h acT (Zk _ _) ⟨(M I),(V2 acS fun x y h=>Zj _ h),J⟩ fun r h=>Q (m9 (M I))<|bF I<|so h▸aT I I

def Zz s{R}(h:vE s=some R):dZ aY 49 [K aR s] (mb R):=by
 refine fc Tryz.func49 I<|bA<|eA I<|cJ<|co<|bN<|cU KS vu IX I<|cU pb mW At I<|dr sQ I<|jK I<|Q (WB IU (M I) (M I))<|bC I<|bY I (dQ pb mW I I)<|bY I (dw At I I)<|bY I (xJ sQ I)<|bY I (fun hg=>lP (df I hg) hI)<|ph I<|bC I ?_;refine bY I (dQ pR oj I I)<|bY I (dw yD I I)<|bY I (xJ vH I)<|bY I (fun hg=>lP (df I hg) hI)<|ph I<|bC I<|bY I (dQ vQ kJ I I)<|bY I (dw Cq I I)<|bY I (xJ Cc I)<|bY I (fun hg=>lP (df I hg) hI)<|ph I<|eK h I (fun h=>?_) (fun h=>?_)
 ·exact bA<|cJ<|fh<|an<|so h▸aT I I
 ·refine nG<|bA<|cU Pg Fc RR I<|jE h aby (Vc _) (gm I) fun r h=>bP I<|bN<|cU pb mW At I<|dr sQ I<|Q (bG hI)<|co<|am<|bE (k:=41) I fun hN=>cc ?_;refine aP (gY (tV:=fun ls i ok=>(s.Items.drop i=ls)/\mQ s ls ok=some R) (Of:=fun _ i ok=>[]) (Gf:=fun _ i ok=>[(1,bt aR s),(3,mb ok),(41,jo (cv) s.Items),(42,mY s.Items),(43,br (i:Int))]) (fun i ok h=>?_) (fun e tl ih i ok h=>?_) s.Items 0 r ⟨I,h⟩) (bO I)
  ·obtain⟨D,h⟩:=h
   refine fH D I<|aC<|bN<|cU pR oj yD I<|dr vH I<|Q (bG hI)<|co<|am<|bE (k:=61) I fun hN1=>?_;refine cc ?_;refine aP (gY (tV:=fun ls1 i1 ok1=>(s.Joins.drop i1=ls1)/\mP s ls1 ok1=some R) (Of:=fun _ i1 ok1=>[]) (Gf:=fun _ i1 ok1=>[(1,bt aR s),(3,mb ok1),(61,jo (cz) s.Joins),(62,mY s.Joins),(63,br (i1:Int))]) (fun i1 ok1 h=>?_) (fun e1 tl1 ih1 i1 ok1 h=>?_) s.Joins 0 ok ⟨I,h⟩) (bO I)
   ·obtain⟨hx1,h⟩:=h
    refine fH hx1 I<|aC<|bN<|cU vQ kJ Cq I<|dr Cc I<|Q (bG hI)<|co<|am<|bE (k:=81) I fun hN2=>?_;refine cc ?_;refine aP (gY (tV:=fun ls2 i2 ok2=>(s.Group.drop i2=ls2)/\mO s ls2 ok2=some R) (Of:=fun _ i2 ok2=>[]) (Gf:=fun _ i2 ok2=>[(1,bt aR s),(3,mb ok2),(81,jo (cK) s.Group),(82,mY s.Group),(83,br (i2:Int))]) (fun i2 ok2 h=>?_) (fun e2 tl2 ih2 i2 ok2 h=>?_) s.Group 0 ok1 ⟨I,h⟩) (bO I)
    ·obtain⟨hx2,h⟩:=h
     refine fH hx2 I<|aC<|bN<|cU xj y8 ic I<|cU vR vt ic I<|Q (ub (r:=aX) (ys:=[s.Where,s.Having]) (xs:=[.tmp 100,.tmp 102]) Tryz.underlying155 ic I aaI I I ⟨(M I),(M I),J⟩)<|Q (bG hI)<|co ?_;refine am<|cc ?_;refine aP (Rz (tV:=fun k i3 ok3=>(2-i3=k)/\ow s k i3 ok3=some R) (Of:=fun _ i3 ok3=>[]) (Gf:=fun _ i3 ok3=>[(3,mb ok3),(103,K (n7 aX 2) ([s.Where,s.Having])),(104,br (i3:Int))]) (fun i3 ok3 h=>?_) (fun k1 ih3 i3 ok3 h=>?_) 2 0 ok2 ⟨I,h⟩) (bO I)
     ·obtain⟨hx3,h⟩:=h
      exact d7<|bA<|Q (jh (M I) hI)<|co<|aE<|lb (M I) (UD hx3)<|gH<|aH<|aH<|dA<|aC<|aQ I<|bF I<|so h▸aT I I
     ·obtain⟨hx3,h⟩:=h
      refine d7<|bA<|Q (jh (M I) hI)<|co<|aE<|la (M I) (UC hx3)<|nG<|aE<|am<|bA<|cV h fun e4 q_e4 h=>Q (zY Tryz.underlying155 ic I I (M I) (M I) q_e4)<|ba ic qj I fun b=>cG ic ak I<|a8 11 I<|co<|aO<|bC I<|bC I ?_;refine cV h fun t q_t h=>aB I (dQ nK lm I I)<|aB I (dw ye I I)<|aB I (xJ sP I)<|aB I (sv I)<|aB I (yx I) ?_
      obtain⟨t1,h1t,h0t⟩:=og q_t
      have q_t1g:=fun H=>(h1t H).1
      refine jk I I I I (fun hg=>wx ic I I)<|jk I I I I (fun hg=>bI (r:=aX) (ys:=[e4]) (xs:=[.tmp 114]) Lo ic I I I I I ⟨(df I hg),J⟩) ?_
      obtain⟨r1,h1t1,h0t1⟩:=og3 q_t1g
      have q_r1g:=fun H=>(h1t1 H).1
      refine jk I I I I (fun hg=>bH aaa (Pm _ (q_r1g hg)) ⟨(df I hg),J⟩)<|aB I (fun hg=>gV (df I hg) (fun H=>(df I (zy hg (yf H)))) (fun H=>(h1t1 (zy hg H)).2) (fun H=>h0t1 hg H))<|Q (cm (M I) (fun H=>(df I H)) (fun H=>(h1t H).2) h0t)<|lI I<|bu<|bW<|aC<|aO<|Q (mh (Sw hx3 (by decide)) (M I) hI)<|bC I<|bu ?_;exact bl (aP (ih3 (i3+1) t ⟨Sv hx3,h⟩) (bO I))
    ·obtain⟨hx2,h⟩:=h
     refine fG hx2 I<|aE<|am<|bA<|i9 Cc yd I (d6 hx2)<|ba yd Cm I fun b1=>cG yd ak I<|a8 9 I<|co<|aO<|bC I<|bC I ?_;refine cV h fun t2 q_t2 h=>aB I (dQ U3 Eo I I)<|aB I (dw mT I I) ?_
     obtain⟨r2,h1t2,h0t2⟩:=og q_t2
     have q_r2g:=fun H=>(h1t2 H).1
     refine aB I (fun hg=>bH MW (zg _ (q_r2g hg)) ⟨(df I hg),J⟩)<|Q (cm (M I) (fun H=>(df I H)) (fun H=>(h1t2 H).2) h0t2)<|bC I<|cV h fun t3 q_t3 h=>aB I (dQ KR z7 I I)<|aB I (dw mT I I) ?_
     obtain⟨r3,h1t3,h0t3⟩:=og q_t3
     have q_r3g:=fun H=>(h1t3 H).1
     refine aB I (fun hg=>bH XA (KZ _ (q_r3g hg)) ⟨(df I hg),J⟩)<|Q (cm (M I) (fun H=>(df I H)) (fun H=>(h1t3 H).2) h0t3)<|lI I<|bu<|eP hx2 hN2 I ?_;exact bl (aP (ih2 (i2+1) t3 ⟨eg hx2,h⟩) (bO I))
   ·obtain⟨hx1,h⟩:=h
    refine fG hx1 I<|aE<|am<|bA<|i9 vH sU I (d6 hx1)<|ba sU Cn I fun b2=>cG sU ak I<|a8 7 I<|co<|aO<|bC I<|bC I ?_;refine cV h fun t4 q_t4 h=>aB I (dQ ze wq I I)<|aB I (dw ic I I)<|aB I (fun hg=>bI (r:=aX) (ys:=[e1.On]) (xs:=[.tmp 70]) Lo ic I I I I I ⟨(df I hg),J⟩) ?_
    obtain⟨r4,h1t4,h0t4⟩:=og q_t4
    have q_r4g:=fun H=>(h1t4 H).1
    refine aB I (fun hg=>bH aaa (Pm _ (q_r4g hg)) ⟨(df I hg),J⟩)<|Q (cm (M I) (fun H=>(df I H)) (fun H=>(h1t4 H).2) h0t4)<|bC I<|cV h fun t5 q_t5 h=>aB I (dQ Pf z8 I I)<|aB I (dw RR I I) ?_
    obtain⟨r5,h1t5,h0t5⟩:=og q_t5
    have q_r5g:=fun H=>(h1t5 H).1
    refine aB I (fun hg=>bH aby (Vc _ (q_r5g hg)) ⟨(df I hg),J⟩)<|Q (cm (M I) (fun H=>(df I H)) (fun H=>(h1t5 H).2) h0t5)<|lI I<|bu<|eP hx1 hN1 I ?_;exact bl (aP (ih1 (i1+1) t5 ⟨eg hx1,h⟩) (bO I))
  ·obtain⟨D,h⟩:=h
   refine fG D I<|aE<|am<|bA<|i9 sQ oE I (d6 D)<|ba oE u6 I fun b3=>cG oE ak I<|a8 5 I<|co<|aO<|bC I<|bC I ?_;refine cV h fun t6 q_t6 h=>aB I (dQ te oP I I)<|aB I (dw ic I I)<|aB I (fun hg=>bI (r:=aX) (ys:=[e.Tree]) (xs:=[.tmp 50]) Lo ic I I I I I ⟨(df I hg),J⟩) ?_
   obtain⟨r6,h1t6,h0t6⟩:=og q_t6
   have q_r6g:=fun H=>(h1t6 H).1
   refine aB I (fun hg=>bH aaa (Pm _ (q_r6g hg)) ⟨(df I hg),J⟩)<|Q (cm (M I) (fun H=>(df I H)) (fun H=>(h1t6 H).2) h0t6)<|bC I<|cV h fun t7 q_t7 h=>aB I (dQ U4 JD I I)<|aB I (dw mT I I) ?_
   obtain⟨r7,h1t7,h0t7⟩:=og q_t7
   have q_r7g:=fun H=>(h1t7 H).1
   refine aB I (fun hg=>bH XA (KZ _ (q_r7g hg)) ⟨(df I hg),J⟩)<|Q (cm (M I) (fun H=>(df I H)) (fun H=>(h1t7 H).2) h0t7)<|lI I<|bu<|eP D hN I ?_;exact bl (aP (ih (i+1) t7 ⟨eg D,h⟩) (bO I))

def ZA s{R}(h:sI s=some R):dZ aY 48 [K aR s] (mb R):=by
 exact fc Tryz.func48 I<|bA<|eA I<|cJ<|co<|bA<|d5 oF I<|jE h adg (Zz _) (gm I) fun r h=>Q (m9 (M I))<|bF I<|so h▸aT I I

def ZQ q{R}(h:Ag q=some R):dZ aY 22 [K bk q] (br R):=by
 refine fc Tryz.func22 I<|bA<|eA I<|dg<|co<|bA<|cU qK pQ Bh I<|dr u0 I<|Q (lP (M I) hI)<|bC I<|aB I (dQ qK pQ I I)<|aB I (dw Bh I I)<|aB I (xJ u0 I)<|aB I (fun hg=>pJ (df I hg) hI)<|j5 I<|bC I<|aB I (dQ zf pP I I)<|aB I (dw Iu I I)<|aB I (xJ yr I)<|aB I (fun hg=>pJ (df I hg) hI) ?_;refine j5 I<|bC I<|cV h fun t q_t h=>aB I (dQ Pi BE I I)<|aB I (dw er I I)<|aB I (sv I)<|aB I (yx I) ?_
 obtain⟨t1,h1t,h0t⟩:=og q_t
 have q_t1g:=fun H=>(h1t H).1
 refine jk I I I I (fun hg=>AC Pi BE I I)<|jk I I I I (fun hg=>nO er I I (df I hg)) ?_
 obtain⟨r,h1t1,h0t1⟩:=og3 q_t1g
 have q_rg:=fun H=>(h1t1 H).1
 refine jk I I I I (fun hg=>bH abE (Vi _ (q_rg hg)) ⟨(df I hg),J⟩)<|aB I (fun hg=>gV (df I hg) (fun H=>(df I (zy hg (yf H)))) (fun H=>(h1t1 (zy hg H)).2) (fun H=>h0t1 hg H))<|Q (cm (M I) (fun H=>(df I H)) (fun H=>(h1t H).2) h0t)<|bP I<|bN<|cU zf pP Iu I<|dr yr I<|Q (bG hI)<|co<|am<|bE (k:=33) I fun hN=>cc ?_;refine aP (gY (tV:=fun ls i ok=>(q.Keys.drop i=ls)/\oW q ls ok=some R) (Of:=fun _ i ok=>[]) (Gf:=fun _ i ok=>[(1,bt bk q),(3,mb ok),(33,jo (jG) q.Keys),(34,mY q.Keys),(35,br (i:Int))]) (fun i ok h=>?_) (fun e tl ih i ok h=>?_) q.Keys 0 t ⟨I,h⟩) (bO I)
 ·obtain⟨D,h⟩:=h
  refine fH D I<|aC<|bN<|bC I<|Q (m9 (M I))<|bC I<|cV h fun t2 q_t2 h=>bY I (dQ qK pQ I I)<|bY I (dw Bh I I) ?_
  obtain⟨r1,h1t2,h0t2⟩:=og q_t2
  have q_r1g:=fun H=>(h1t2 H).1
  refine bY I (fun hg=>bH adi (ZB _ _ (q_r1g hg)) ⟨(df I hg),(V2 adh fun x y h=>ZA _ h),J⟩)<|Q (gV (M I) (fun H=>(df I (yf H))) (fun H=>(h1t2 H).2) h0t2)<|eK h I (fun h=>?_) (fun h=>?_)
  ·exact bA<|iG<|an<|so h▸aT I I
  ·exact nG<|bA<|iG<|so h▸aT I I
 ·obtain⟨D,h⟩:=h
  refine fG D I<|aE<|am<|bA<|i9 yr Fy I (d6 D)<|ba Fy NI I fun b=>cG Fy ak I<|a8 5 I<|co<|aO<|bC I<|bC I ?_;refine cV h fun t3 q_t3 h=>aB I (dQ HG za I I)<|aB I (dw mT I I)<|aB I (fun hg=>na (df I hg) hS)<|aB I (yx I) ?_
  obtain⟨t4,h1t3,h0t3⟩:=og q_t3
  have q_t4g:=fun H=>(h1t3 H).1
  refine iA I I I I (fun hg=>AC HF y9 I I)<|iA I I I I (fun hg=>nO er I I (df I hg)) ?_
  obtain⟨r2,h1t4,h0t4⟩:=og3 q_t4g
  have q_r2g:=fun H=>(h1t4 H).1
  refine iA I I I I (fun hg=>bH abE (Vi _ (q_r2g hg)) ⟨(df I hg),J⟩)<|aB I (fun hg=>cm (df I hg) (fun H=>(df I (zy hg H))) (fun H=>(h1t4 (zy hg H)).2) (fun H=>h0t4 hg H))<|aB I (yx I) ?_
  obtain⟨t5,h1t3⟩:=YQ (fun H=>(h1t3 H).2)
  have q_t5g:=fun H=>(h1t3 H).1
  refine jk I I I I (fun hg=>AC HG za I I)<|jk I I I I (fun hg=>nO mT I I (df I hg)) ?_
  obtain⟨r3,h1t5,h0t5⟩:=og3 q_t5g
  have q_r3g:=fun H=>(h1t5 H).1
  refine jk I I I I (fun hg=>bH MW (zg _ (q_r3g hg)) ⟨(df I hg),J⟩)<|jk I I I I (fun hg=>bG (df I hg))<|iA I I I I (fun hg=>AC HF y9 I I)<|iA I I I I (fun hg=>nO er I I (df I hg))<|iA I I I I (fun hg=>sf (df I hg) hI)<|jk I I I I (fun hg=>n8 (df I hg) (fun H=>(df I (zy hg H))))<|aB I (fun hg=>gV (df I hg) (fun H=>(df I (zy hg (yf H)))) (fun H=>(h1t5 (zy hg H)).2) (fun H=>h0t5 hg H))<|Q (cm (M I) (fun H=>(df I H)) (fun H=>(h1t3 H).2) h0t3)<|lI I<|bu<|eP D hN I ?_;exact bl (aP (ih (i+1) t3 ⟨eg D,h⟩) (bO I))

def Zh c name{R}(h:nr c name=some R):dZ aY 95 [K cn c,K rS name] (tT [br R.1,mb R.2]):=by
 exact fc Tryz.func95 I<|bA<|eA I<|dg<|cJ<|co<|bA<|cU vS nf Gq I<|bC I<|jE h abA (Ve _ _ _) ⟨(M I),(V2 abF fun x y h=>Vj _ h),(M I),J⟩ fun r h=>fI I I<|fI I I<|lI I<|bF I<|so h▸gP I I I

def Zg s{R}(h:vC s=some R):dZ aY 96 [K fS s] (K rS R):=by
 refine fc Tryz.func96 I<|bA<|eA I<|Q (cR hS)<|co<|bN<|cU Es sD mT I<|Q (na (M I) hS)<|eK h I (fun h=>?_) (fun h=>?_)
 ·exact bA<|cU HH sE mT I<|bF I<|an<|so h▸aT I I
 ·exact nG<|bA<|cU Es sD mT I<|bF I<|so h▸aT I I

set_option maxHeartbeats 4000000 in
def Yb(b:Nat)(ix:OI) s p{R}(h:dU s p=some R):eJ aY 73 [Z (al b 0),K fS p] (dh b s ix) (fun _:OI=>br R.1) (fun j=>dh b R.2 j):=by
 refine eJ.of Tryz.func73 I I I fun w0 S0=>?_;refine(show CG _ _ _ [bx (rH aD [(10,Y (ix.h 0).1 (ix.h 0).2 s.out.Tables.length),(11,Y (ix.h 1).1 (ix.h 1).2 s.out.Joins.length),(16,Y (ix.h 2).1 (ix.h 2).2 s.out.Keys.length),(17,Y (ix.h 3).1 (ix.h 3).2 s.out.Aggs.length),(18,Y (ix.h 4).1 (ix.h 4).2 s.out.Items.length),(22,Y (ix.h 5).1 (ix.h 5).2 s.kinds.length),(23,Y (ix.h 6).1 (ix.h 6).2 s.groups.length),(19,au (ix.h 7).2),(20,au (ix.h 8).2),(21,au (ix.h 9).2)]) 103 b s,d aU 3 (ix.h 0).1 (ix.h 0).2 s.out.Tables,d aM 115 (ix.h 1).1 (ix.h 1).2 s.out.Joins,d aU 3 (ix.h 2).1 (ix.h 2).2 s.out.Keys,d bg 119 (ix.h 3).1 (ix.h 3).2 s.out.Aggs,d ah 76 (ix.h 4).1 (ix.h 4).2 s.out.Items,d aU 3 (ix.h 5).1 (ix.h 5).2 s.kinds,d aU 3 (ix.h 6).1 (ix.h 6).2 s.groups,bQ lW ez (ix.h 7).2 none (ix.oss 0) s.called,bQ fq ez (ix.h 8).2 none (ix.oss 1) s.alone,eQ (fun y:Int=>br y) kj (ix.h 9).2 s.behind] _ from ?_);refine bA<|eA I<|dg<|co<|aE<|cV h fun r q_r h=>?_
 refine mn (ts:=[_,_,_,_,_,_,_,_,_,_,_,_]) mixed I I
  ⟨kO I I,
  ⟨mU 12 0 I I (bZ (M I)),
  ⟨mU 13 1 I I (qX 0 KW I I I),
  ⟨mU 14 2 I I (bn (r:=rH aD [(10,Y (ix.h 0).1 (ix.h 0).2 s.out.Tables.length),(11,Y (ix.h 1).1 (ix.h 1).2 s.out.Joins.length),(16,Y (ix.h 2).1 (ix.h 2).2 s.out.Keys.length),(17,Y (ix.h 3).1 (ix.h 3).2 s.out.Aggs.length),(18,Y (ix.h 4).1 (ix.h 4).2 s.out.Items.length),(22,Y (ix.h 5).1 (ix.h 5).2 s.kinds.length),(23,Y (ix.h 6).1 (ix.h 6).2 s.groups.length),(19,au (ix.h 7).2),(20,au (ix.h 8).2),(21,au (ix.h 9).2)]) (x:=s) uu I I (tM BB) (.head _) (M I)),
  ⟨DF 3 I I (AC HH sE I I),
  ⟨wc 4 mT I I,
  ⟨ma 15 3 17 5 I I I (bH acQ (Zh _ _ q_r) ⟨(M I),(M I),J⟩),
  ⟨mU 18 6 I I (jM I),
  ⟨mU 11 7 I I (Bd I I),
  ⟨mU 11 7 I I (Bd I I),
  ⟨mU 19 8 I I (IV I),
  ⟨mU 20 9 I I (IV I),
  J⟩⟩⟩⟩⟩⟩⟩⟩⟩⟩⟩⟩ ?_
 refine aC<|bA<|d5 RR I<|jE h acP (Zg _) (gm I) fun r1 h=>bP I<|aE<|am<|aQ I<|Q (m9 (M I))<|bP I<|u7 h I (fun h=>?_) (fun h=>?_)
 ·exact bA<|iG<|ej<|so h▸eZ I ix I I (fun _ _ h=>h)
 ·refine aQ I<|Q (bZ (M I))<|ca 19 Ra I<|Q (po aaF I (.head _) (M I))<|bC I<|Q (OC (γ:=fun y:Bool=>K rB y) (z:=false) Tryz.underlying99 (CT i6) zv4 (fun S=>⟨_,I,(fun _=>I) S⟩) (.tail _ (.tail _ (.tail _ (.tail _ (.tail _ (.tail _ (.tail _ (.tail _ (.head _))))))))) (M I) (UL (M I)))<|bP I<|u7 h I (fun h=>?_) (fun h=>?_)
  ·exact bA<|iG<|ej<|so h▸eZ I ix I I (fun _ _ h=>h)
  ·refine ck<|bW<|aC<|aQ I<|Q (bZ (M I))<|ca 19 Ra I<|Q (po aaF I (.head _) (M I))<|bC I<|Te<|XK (γ:=fun y:Bool=>mb y) Tryz.underlying99 (CT i6) (M I) (UL (M I)) hB fun os=>cY<|PM (r' :=rH aD [(10,Y (ix.h 0).1 (ix.h 0).2 s.out.Tables.length),(11,Y (ix.h 1).1 (ix.h 1).2 s.out.Joins.length),(16,Y (ix.h 2).1 (ix.h 2).2 s.out.Keys.length),(17,Y (ix.h 3).1 (ix.h 3).2 s.out.Aggs.length),(18,Y (ix.h 4).1 (ix.h 4).2 s.out.Items.length),(22,Y (ix.h 5).1 (ix.h 5).2 s.kinds.length),(23,Y (ix.h 6).1 (ix.h 6).2 s.groups.length),(19,au (ix.h 7).2),(20,au (ix.h 8).2),(21,au (ix.h 9).2)]) (x' :=({s with called:=(ga s.called r1 true)}:ac)) (fun _ _ _ _ h=>h) ?_;refine(show RG _ _ _ _ [_,_,_,_,_,_,_,_,_,_,_] _ from ?_);refine co<|aQ I<|bC I<|Q (bZ (M I))<|ca 10 gO I<|ca 10 HB I<|Q (fU ky I (.head _) (.tail _ (.tail _ (.head _))) (M I))<|bC I<|Q (bI (r:=aU) (ys:=[r.1]) (xs:=[.tmp 44]) jL er I I I I I ⟨(M I),J⟩)<|gw<|cV h fun l q_l h=>uU er I I I I jL I I (M I) (M I) q_l fun l1 c=>Q (bZ (M I))<|ca 10 gO I<|ca 10 HB I<|jl (EffOK.fr1 (nk (hs' :=[(10,Y l1 c l.length),(11,Y (ix.h 1).1 (ix.h 1).2 s.out.Joins.length),(16,Y (ix.h 2).1 (ix.h 2).2 s.out.Keys.length),(17,Y (ix.h 3).1 (ix.h 3).2 s.out.Aggs.length),(18,Y (ix.h 4).1 (ix.h 4).2 s.out.Items.length),(22,Y (ix.h 5).1 (ix.h 5).2 s.kinds.length),(23,Y (ix.h 6).1 (ix.h 6).2 s.groups.length),(19,au (ix.h 7).2),(20,au (ix.h 8).2),(21,au (ix.h 9).2)]) (u:=Y l1 c l.length) ky I I (j8 iK lM Kp) I ⟨.inl ⟨I,I,I⟩,.inr ⟨I,I⟩,.inr ⟨I,I⟩,.inr ⟨I,I⟩,.inr ⟨I,I⟩,.inr ⟨I,I⟩,.inr ⟨I,I⟩,.inr ⟨I,I⟩,.inr ⟨I,I⟩,.inr ⟨I,I⟩,J⟩ (M I) (tv (M I)) (Bi (M I)))) fun i=>?_;refine(show RG _ _ _ _ [_,_,_,_,_,_,_,_,_,_,_] _ from ?_);refine cV h fun sc q_sc h=>jm (O' :=[bx (rH aD [(10,Y l1 c sc.out.Tables.length),(11,Y (ix.h 1).1 (ix.h 1).2 sc.out.Joins.length),(16,Y (ix.h 2).1 (ix.h 2).2 sc.out.Keys.length),(17,Y (ix.h 3).1 (ix.h 3).2 sc.out.Aggs.length),(18,Y (ix.h 4).1 (ix.h 4).2 sc.out.Items.length),(22,Y (ix.h 5).1 (ix.h 5).2 sc.kinds.length),(23,Y (ix.h 6).1 (ix.h 6).2 sc.groups.length),(19,au (ix.h 7).2),(20,au (ix.h 8).2),(21,au (ix.h 9).2)]) 103 b sc,d aU 3 l1 c sc.out.Tables,bQ lW ez (ix.h 7).2 none os sc.called,d aM 115 (ix.h 1).1 (ix.h 1).2 sc.out.Joins,d aU 3 (ix.h 2).1 (ix.h 2).2 sc.out.Keys,d bg 119 (ix.h 3).1 (ix.h 3).2 sc.out.Aggs,d ah 76 (ix.h 4).1 (ix.h 4).2 sc.out.Items,d aU 3 (ix.h 5).1 (ix.h 5).2 sc.kinds,d aU 3 (ix.h 6).1 (ix.h 6).2 sc.groups,bQ fq ez (ix.h 8).2 none (ix.oss 1) sc.alone,eQ (fun y:Int=>br y) kj (ix.h 9).2 sc.behind]) (by cases so q_sc;exact I)<|co<|bN<|bC I<|Q (bZ (M I))<|ca 0 KW I<|ca 0 vS I<|Q (bn (r:=rH aD [(10,Y l1 c sc.out.Tables.length),(11,Y (ix.h 1).1 (ix.h 1).2 sc.out.Joins.length),(16,Y (ix.h 2).1 (ix.h 2).2 sc.out.Keys.length),(17,Y (ix.h 3).1 (ix.h 3).2 sc.out.Aggs.length),(18,Y (ix.h 4).1 (ix.h 4).2 sc.out.Items.length),(22,Y (ix.h 5).1 (ix.h 5).2 sc.kinds.length),(23,Y (ix.h 6).1 (ix.h 6).2 sc.groups.length),(19,au (ix.h 7).2),(20,au (ix.h 8).2),(21,au (ix.h 9).2)]) (x:=sc) Gq I I (tM (fV BB nf)) (.head _) (M I))<|bC I<|cV h fun e q_e h=>xH yo ut I q_e<|cU xh oh Kd I<|dr vY I<|Q (bG hI)<|co<|am<|bE (k:=58) I fun hN=>cc ?_;refine fX<|fX<|EB<|fX<|fX<|fX<|fX<|fX<|fX<|fX<|fX ?_;refine aP (sM (tV:=fun ls i1 ob ix1=>(e.Columns.drop i1=ls)/\eE r1 ls ob=some R) (Of:=fun _ i1 ob (ix1:OI)=>[bx (rH aD [(10,Y (ix1.h 0).1 (ix1.h 0).2 ob.out.Tables.length),(11,Y (ix1.h 1).1 (ix1.h 1).2 ob.out.Joins.length),(16,Y (ix1.h 2).1 (ix1.h 2).2 ob.out.Keys.length),(17,Y (ix1.h 3).1 (ix1.h 3).2 ob.out.Aggs.length),(18,Y (ix1.h 4).1 (ix1.h 4).2 ob.out.Items.length),(22,Y (ix1.h 5).1 (ix1.h 5).2 ob.kinds.length),(23,Y (ix1.h 6).1 (ix1.h 6).2 ob.groups.length),(19,au (ix1.h 7).2),(20,au (ix1.h 8).2),(21,au (ix1.h 9).2)]) 103 b ob,d aU 3 (ix1.h 0).1 (ix1.h 0).2 ob.out.Tables,d aM 115 (ix1.h 1).1 (ix1.h 1).2 ob.out.Joins,d aU 3 (ix1.h 2).1 (ix1.h 2).2 ob.out.Keys,d bg 119 (ix1.h 3).1 (ix1.h 3).2 ob.out.Aggs,d ah 76 (ix1.h 4).1 (ix1.h 4).2 ob.out.Items,d aU 3 (ix1.h 5).1 (ix1.h 5).2 ob.kinds,d aU 3 (ix1.h 6).1 (ix1.h 6).2 ob.groups,bQ lW ez (ix1.h 7).2 none (ix1.oss 0) ob.called,bQ fq ez (ix1.h 8).2 none (ix1.oss 1) ob.alone,eQ (fun y:Int=>br y) kj (ix1.h 9).2 ob.behind]) (Gf:=fun _ i1 ob ix1=>[(0,Z (al b 0)),(7,K rS r1),(58,jo (cX) e.Columns),(59,mY e.Columns),(60,br (i1:Int))]) (fun i1 ob ix1 h=>?_) (fun e1 tl ih i1 ob ix1 h=>?_) e.Columns 0 sc (WD [(l1,c),((ix.h 1).1,(ix.h 1).2),((ix.h 2).1,(ix.h 2).2),((ix.h 3).1,(ix.h 3).2),((ix.h 4).1,(ix.h 4).2),((ix.h 5).1,(ix.h 5).2),((ix.h 6).1,(ix.h 6).2),(none,(ix.h 7).2),(none,(ix.h 8).2),(none,(ix.h 9).2)] [os,(ix.oss 1),[]]) ⟨I,h⟩) (bO I)
   ·obtain⟨D,h⟩:=h
    exact fH D I<|aC<|bA<|iG<|so h▸eZ I ix1 I I (fun _ _ h=>h)
   ·obtain⟨D,h⟩:=h
    refine fG D I<|aE<|am<|bA<|i9 vY sS I (d6 D)<|ba sS ro I fun b1=>cG sS ak I<|a8 9 I<|co<|aQ I ?_;refine Q (bZ (M I))<|ca 22 vx I<|Q (fU ky I (.head _) (.tail _ (.tail _ (.tail _ (.tail _ (.tail _ (.tail _ (.head _))))))) (M I))<|Q (oc jL (tv (M I)))<|bP I<|aE<|cV h fun l9 q_l9 h=>?_
    refine fY 16 [tc (Z (al b 0)),tc (Z (al b 0)),tc (Z (al b 20)),tc (Z (au (ix1.h 8).2)),tc (bt rS e1.Name),tc (K rS e1.Name),tc (Z (al b 0)),tc (Z (al b 0)),tc (Z (al b 20)),tc (Z (au (ix1.h 8).2)),tc (bt rS e1.Name),tc (K rS e1.Name),([12],fun s=>tO aU ((s.getD 0 oA).h 0).1 ((s.getD 0 oA).h 0).2 ((fj ob.alone e1.Name).getD [])),tc (mY ob.kinds),tc (yl ([(ob.kinds.length:Int)])),([15],fun s=>tO aU ((s.getD 0 oA).h 0).1 ((s.getD 0 oA).h 0).2 l9)] [false,false,false,false,false,false,false,false,false,false,false,false,true,false,false,true] [fun _=>[bx (rH aD [(10,Y (ix1.h 0).1 (ix1.h 0).2 ob.out.Tables.length),(11,Y (ix1.h 1).1 (ix1.h 1).2 ob.out.Joins.length),(16,Y (ix1.h 2).1 (ix1.h 2).2 ob.out.Keys.length),(17,Y (ix1.h 3).1 (ix1.h 3).2 ob.out.Aggs.length),(18,Y (ix1.h 4).1 (ix1.h 4).2 ob.out.Items.length),(22,Y (ix1.h 5).1 (ix1.h 5).2 ob.kinds.length),(23,Y (ix1.h 6).1 (ix1.h 6).2 ob.groups.length),(19,au (ix1.h 7).2),(20,au (ix1.h 8).2),(21,au (ix1.h 9).2)]) 103 b ob,d aU 3 (ix1.h 0).1 (ix1.h 0).2 ob.out.Tables,d aM 115 (ix1.h 1).1 (ix1.h 1).2 ob.out.Joins,d aU 3 (ix1.h 2).1 (ix1.h 2).2 ob.out.Keys,d bg 119 (ix1.h 3).1 (ix1.h 3).2 ob.out.Aggs,d ah 76 (ix1.h 4).1 (ix1.h 4).2 ob.out.Items,d aU 3 (ix1.h 5).1 (ix1.h 5).2 ob.kinds,d aU 3 (ix1.h 6).1 (ix1.h 6).2 ob.groups,bQ lW ez (ix1.h 7).2 none (ix1.oss 0) ob.called,bQ fq ez (ix1.h 8).2 none (ix1.oss 1) ob.alone,eQ (fun y:Int=>br y) kj (ix1.h 9).2 ob.behind],fun sg=>[d aU 3 ((sg 12).h 0).1 ((sg 12).h 0).2 ((fj ob.alone e1.Name).getD []),bQ fq ez (ix1.h 8).2 (some e1.Name) (sg 12).os ob.alone,bx (rH aD [(10,Y (ix1.h 0).1 (ix1.h 0).2 ob.out.Tables.length),(11,Y (ix1.h 1).1 (ix1.h 1).2 ob.out.Joins.length),(16,Y (ix1.h 2).1 (ix1.h 2).2 ob.out.Keys.length),(17,Y (ix1.h 3).1 (ix1.h 3).2 ob.out.Aggs.length),(18,Y (ix1.h 4).1 (ix1.h 4).2 ob.out.Items.length),(22,Y (ix1.h 5).1 (ix1.h 5).2 ob.kinds.length),(23,Y (ix1.h 6).1 (ix1.h 6).2 ob.groups.length),(19,au (ix1.h 7).2),(20,au (ix1.h 8).2),(21,au (ix1.h 9).2)]) 103 b ob,d aU 3 (ix1.h 0).1 (ix1.h 0).2 ob.out.Tables,d aM 115 (ix1.h 1).1 (ix1.h 1).2 ob.out.Joins,d aU 3 (ix1.h 2).1 (ix1.h 2).2 ob.out.Keys,d bg 119 (ix1.h 3).1 (ix1.h 3).2 ob.out.Aggs,d ah 76 (ix1.h 4).1 (ix1.h 4).2 ob.out.Items,d aU 3 (ix1.h 5).1 (ix1.h 5).2 ob.kinds,d aU 3 (ix1.h 6).1 (ix1.h 6).2 ob.groups,bQ lW ez (ix1.h 7).2 none (ix1.oss 0) ob.called,eQ (fun y:Int=>br y) kj (ix1.h 9).2 ob.behind],fun sg=>[d aU 3 ((sg 15).h 0).1 ((sg 15).h 0).2 l9,bQ fq ez (ix1.h 8).2 (some e1.Name) (sg 12).os ob.alone,bx (rH aD [(10,Y (ix1.h 0).1 (ix1.h 0).2 ob.out.Tables.length),(11,Y (ix1.h 1).1 (ix1.h 1).2 ob.out.Joins.length),(16,Y (ix1.h 2).1 (ix1.h 2).2 ob.out.Keys.length),(17,Y (ix1.h 3).1 (ix1.h 3).2 ob.out.Aggs.length),(18,Y (ix1.h 4).1 (ix1.h 4).2 ob.out.Items.length),(22,Y (ix1.h 5).1 (ix1.h 5).2 ob.kinds.length),(23,Y (ix1.h 6).1 (ix1.h 6).2 ob.groups.length),(19,au (ix1.h 7).2),(20,au (ix1.h 8).2),(21,au (ix1.h 9).2)]) 103 b ob,d aU 3 (ix1.h 0).1 (ix1.h 0).2 ob.out.Tables,d aM 115 (ix1.h 1).1 (ix1.h 1).2 ob.out.Joins,d aU 3 (ix1.h 2).1 (ix1.h 2).2 ob.out.Keys,d bg 119 (ix1.h 3).1 (ix1.h 3).2 ob.out.Aggs,d ah 76 (ix1.h 4).1 (ix1.h 4).2 ob.out.Items,d aU 3 (ix1.h 5).1 (ix1.h 5).2 ob.kinds,d aU 3 (ix1.h 6).1 (ix1.h 6).2 ob.groups,bQ lW ez (ix1.h 7).2 none (ix1.oss 0) ob.called,eQ (fun y:Int=>br y) kj (ix1.h 9).2 ob.behind]] I mixed I I I I I
     ⟨⟨[⟨0,fun _=>Z (al b 0),none⟩],_,0,2,I,⟨(fun _=>I),J⟩,I,I,I,I,I,fun _ sg _ _=>aK I (jM I)⟩,
     ⟨⟨[⟨69,fun _=>Z (al b 0),some 0⟩],_,0,2,I,⟨(fun _=>I),J⟩,I,I,I,I,I,fun _ sg _ _=>aK I (bZ (M I))⟩,
     ⟨⟨[⟨70,fun _=>Z (al b 0),some 1⟩],_,0,2,I,⟨(fun _=>I),J⟩,I,I,I,I,I,fun _ sg _ _=>aK I (qX 20 KV I I I)⟩,
     ⟨⟨[⟨71,fun _=>Z (al b 20),some 2⟩],_,0,2,I,⟨(fun _=>I),J⟩,I,I,I,I,I,rq (fun sg=>aK I (po LB I (.head _) (M I))) (rq (fun sg=>aK I (po LB I (.tail _ (.tail _ (.head _))) (M I))) (dX (fun sg=>aK I (po LB I (.tail _ (.tail _ (.head _))) (M I)))))⟩,
     ⟨⟨[⟨9,fun _=>bt cX e1,none⟩],_,0,2,I,⟨(fun _=>I),J⟩,I,I,I,I,I,fun _ sg _ _=>aK I (AC HA sF I I)⟩,
     ⟨⟨[⟨73,fun _=>bt rS e1.Name,some 4⟩],_,0,2,I,⟨(fun _=>I),J⟩,I,I,I,I,I,fun _ sg _ _=>aK I (wx mT I I)⟩,
     ⟨⟨[⟨0,fun _=>Z (al b 0),none⟩],_,0,0,I,⟨(fun _=>I),J⟩,I,I,I,I,I,fun _ sg _ _=>aK I (jM I)⟩,
     ⟨⟨[⟨75,fun _=>Z (al b 0),some 6⟩],_,0,0,I,⟨(fun _=>I),J⟩,I,I,I,I,I,fun _ sg _ _=>aK I (bZ (M I))⟩,
     ⟨⟨[⟨76,fun _=>Z (al b 0),some 7⟩],_,0,0,I,⟨(fun _=>I),J⟩,I,I,I,I,I,fun _ sg _ _=>aK I (qX 20 KV I I I)⟩,
     ⟨⟨[⟨77,fun _=>Z (al b 20),some 8⟩],_,0,0,I,⟨(fun _=>I),J⟩,I,I,I,I,I,dX (fun sg=>aK I (po LB I (.head _) (M I)))⟩,
     ⟨⟨[⟨9,fun _=>bt cX e1,none⟩],_,0,0,I,⟨(fun _=>I),J⟩,I,I,I,I,I,fun _ sg _ _=>aK I (AC HA sF I I)⟩,
     ⟨⟨[⟨79,fun _=>bt rS e1.Name,some 10⟩],_,0,0,I,⟨(fun _=>I),J⟩,I,I,I,I,I,fun _ sg _ _=>aK I (wx mT I I)⟩,
     ⟨⟨[⟨78,fun _=>Z (au (ix1.h 8).2),some 9⟩,⟨80,fun _=>K rS e1.Name,some 11⟩],_,I,⟨(fun _=>I),(fun _=>I),J⟩,I,I,I,fun sg=>bL I (EffOK.fr9 (SR Tryz.underlying100 (CT i6) aag (M I) (UL (M I))))⟩,
     ⟨⟨[⟨10,fun _=>K aU (ob.kinds.length:Int),none⟩],_,0,1,I,⟨(fun _=>I),J⟩,I,I,I,I,I,fun _ sg _ _=>aK I (jM I)⟩,
     ⟨⟨[⟨82,fun _=>K aU (ob.kinds.length:Int),some 13⟩],_,0,1,I,⟨(fun _=>I),J⟩,I,I,I,I,I,fun _ sg _ _=>aK I (bI (r:=aU) (ys:=[(ob.kinds.length:Int)]) (xs:=[.tmp 82]) jL er I I I I I ⟨(M I),J⟩)⟩,
     ⟨⟨[⟨81,fun sg=>tO aU ((sg 12).h 0).1 ((sg 12).h 0).2 ((fj ob.alone e1.Name).getD []),some 12⟩,⟨83,fun _=>K Fq ([(ob.kinds.length:Int)]),some 14⟩],_,I,⟨(fun _=>I),(fun _=>I),J⟩,I,I,I,fun sg=>bL I (lE er I I I I jL I (M I) (M I) q_l9)⟩,
     J⟩⟩⟩⟩⟩⟩⟩⟩⟩⟩⟩⟩⟩⟩⟩⟩ (fun sg=>?_)
    refine(show RG _ _ _ _ [_,_,_,_,_,_,_,_,_,_,_,_] _ from ?_);refine cY<|cY<|XL Tryz.underlying100 (CT i6) (M I) (UL (M I)) (M I) fun os1=>cY<|PM (r' :=rH aD [(10,Y (ix1.h 0).1 (ix1.h 0).2 ob.out.Tables.length),(11,Y (ix1.h 1).1 (ix1.h 1).2 ob.out.Joins.length),(16,Y (ix1.h 2).1 (ix1.h 2).2 ob.out.Keys.length),(17,Y (ix1.h 3).1 (ix1.h 3).2 ob.out.Aggs.length),(18,Y (ix1.h 4).1 (ix1.h 4).2 ob.out.Items.length),(22,Y (ix1.h 5).1 (ix1.h 5).2 ob.kinds.length),(23,Y (ix1.h 6).1 (ix1.h 6).2 ob.groups.length),(19,au (ix1.h 7).2),(20,au (ix1.h 8).2),(21,au (ix1.h 9).2)]) (x' :=({ob with alone:=(ga ob.alone e1.Name l9)}:ac)) (fun _ _ _ _ h=>h) ?_;refine(show RG _ _ _ _ [_,_,_,_,_,_,_,_,_,_,_] _ from ?_);refine co<|aE ?_
    refine oz 9 (ts:=[Z (al b 0),Z (al b 0),Z (al b 21),Z (au (ix1.h 9).2),K rS r1,bt rS e1.Name,K rS e1.Name,K cK (⟨r1,e1.Name⟩:gk),mY ob.kinds]) mixed I I I
     ⟨kO I I,
     ⟨mU 85 0 I I (bZ (M I)),
     ⟨mU 86 1 I I (qX 21 Q9 I I I),
     ⟨mU 87 2 I I (po XX I (.head _) (M I)),
     ⟨kO I I,
     ⟨DF 9 I I (AC HA sF I I),
     ⟨wc 5 mT I I,
     ⟨ma 89 4 91 6 I I I (cQ (y:=(⟨r1,e1.Name⟩:gk)) yd aa1 Cm (⟨_,_,_,_,_,I,DW,I,(M I),⟨_,_,_,_,_,I,I6,I,(M I),I⟩⟩)),
     ⟨kO I I,
     J⟩⟩⟩⟩⟩⟩⟩⟩⟩ ?_
    refine PL<|XM (γ:=fun y:Int=>br y) Tryz.underlying101 aaS (M I) (UM (p:=((⟨r1,e1.Name⟩:gk).Table,(⟨r1,e1.Name⟩:gk).Name)) I (fun _ _ h=>aaU h) (M I)) (M I)<|cY<|PM (r' :=rH aD [(10,Y (ix1.h 0).1 (ix1.h 0).2 ob.out.Tables.length),(11,Y (ix1.h 1).1 (ix1.h 1).2 ob.out.Joins.length),(16,Y (ix1.h 2).1 (ix1.h 2).2 ob.out.Keys.length),(17,Y (ix1.h 3).1 (ix1.h 3).2 ob.out.Aggs.length),(18,Y (ix1.h 4).1 (ix1.h 4).2 ob.out.Items.length),(22,Y (ix1.h 5).1 (ix1.h 5).2 ob.kinds.length),(23,Y (ix1.h 6).1 (ix1.h 6).2 ob.groups.length),(19,au (ix1.h 7).2),(20,au (ix1.h 8).2),(21,au (ix1.h 9).2)]) (x' :=({({ob with alone:=(ga ob.alone e1.Name l9)}:ac)with behind:=(ga ob.behind ((⟨r1,e1.Name⟩:gk).Table,(⟨r1,e1.Name⟩:gk).Name) (ob.kinds.length:Int))}:ac)) (fun _ _ _ _ h=>h) ?_;refine(show RG _ _ _ _ [_,_,_,_,_,_,_,_,_,_,_] _ from ?_);refine cV h fun sc1 q_sc1 h=>jm (O' :=[bx (rH aD [(10,Y (ix1.h 0).1 (ix1.h 0).2 sc1.out.Tables.length),(11,Y (ix1.h 1).1 (ix1.h 1).2 sc1.out.Joins.length),(16,Y (ix1.h 2).1 (ix1.h 2).2 sc1.out.Keys.length),(17,Y (ix1.h 3).1 (ix1.h 3).2 sc1.out.Aggs.length),(18,Y (ix1.h 4).1 (ix1.h 4).2 sc1.out.Items.length),(22,Y (ix1.h 5).1 (ix1.h 5).2 sc1.kinds.length),(23,Y (ix1.h 6).1 (ix1.h 6).2 sc1.groups.length),(19,au (ix1.h 7).2),(20,au (ix1.h 8).2),(21,au (ix1.h 9).2)]) 103 b sc1,eQ (fun y:Int=>br y) kj (ix1.h 9).2 sc1.behind,bQ fq ez (ix1.h 8).2 none os1 sc1.alone,d aU 3 (ix1.h 0).1 (ix1.h 0).2 sc1.out.Tables,d aM 115 (ix1.h 1).1 (ix1.h 1).2 sc1.out.Joins,d aU 3 (ix1.h 2).1 (ix1.h 2).2 sc1.out.Keys,d bg 119 (ix1.h 3).1 (ix1.h 3).2 sc1.out.Aggs,d ah 76 (ix1.h 4).1 (ix1.h 4).2 sc1.out.Items,d aU 3 (ix1.h 5).1 (ix1.h 5).2 sc1.kinds,d aU 3 (ix1.h 6).1 (ix1.h 6).2 sc1.groups,bQ lW ez (ix1.h 7).2 none (ix1.oss 0) sc1.called]) (by cases so q_sc1;exact I)<|co<|cV h fun l10 q_l10 h=>?_
    refine fY 9 [tc (Z (al b 0)),tc (Z (al b 0)),tc (Z (al b 0)),tc (Z (al b 22)),tc (tO aU (ix1.h 5).1 (ix1.h 5).2 sc1.kinds),tc (bt aU e1.Kind),tc (br e1.Kind),tc (yl ([e1.Kind])),([8],fun s=>tO aU ((s.getD 0 oA).h 0).1 ((s.getD 0 oA).h 0).2 l10)] [false,false,false,false,false,false,false,false,true] [fun _=>[bx (rH aD [(10,Y (ix1.h 0).1 (ix1.h 0).2 sc1.out.Tables.length),(11,Y (ix1.h 1).1 (ix1.h 1).2 sc1.out.Joins.length),(16,Y (ix1.h 2).1 (ix1.h 2).2 sc1.out.Keys.length),(17,Y (ix1.h 3).1 (ix1.h 3).2 sc1.out.Aggs.length),(18,Y (ix1.h 4).1 (ix1.h 4).2 sc1.out.Items.length),(22,Y (ix1.h 5).1 (ix1.h 5).2 sc1.kinds.length),(23,Y (ix1.h 6).1 (ix1.h 6).2 sc1.groups.length),(19,au (ix1.h 7).2),(20,au (ix1.h 8).2),(21,au (ix1.h 9).2)]) 103 b sc1,eQ (fun y:Int=>br y) kj (ix1.h 9).2 sc1.behind,bQ fq ez (ix1.h 8).2 none os1 sc1.alone,d aU 3 (ix1.h 0).1 (ix1.h 0).2 sc1.out.Tables,d aM 115 (ix1.h 1).1 (ix1.h 1).2 sc1.out.Joins,d aU 3 (ix1.h 2).1 (ix1.h 2).2 sc1.out.Keys,d bg 119 (ix1.h 3).1 (ix1.h 3).2 sc1.out.Aggs,d ah 76 (ix1.h 4).1 (ix1.h 4).2 sc1.out.Items,d aU 3 (ix1.h 5).1 (ix1.h 5).2 sc1.kinds,d aU 3 (ix1.h 6).1 (ix1.h 6).2 sc1.groups,bQ lW ez (ix1.h 7).2 none (ix1.oss 0) sc1.called],fun sg1=>[d aU 3 ((sg1 8).h 0).1 ((sg1 8).h 0).2 l10,bx (rH aD [(10,Y (ix1.h 0).1 (ix1.h 0).2 sc1.out.Tables.length),(11,Y (ix1.h 1).1 (ix1.h 1).2 sc1.out.Joins.length),(16,Y (ix1.h 2).1 (ix1.h 2).2 sc1.out.Keys.length),(17,Y (ix1.h 3).1 (ix1.h 3).2 sc1.out.Aggs.length),(18,Y (ix1.h 4).1 (ix1.h 4).2 sc1.out.Items.length),(22,Y (ix1.h 5).1 (ix1.h 5).2 sc1.kinds.length),(23,Y (ix1.h 6).1 (ix1.h 6).2 sc1.groups.length),(19,au (ix1.h 7).2),(20,au (ix1.h 8).2),(21,au (ix1.h 9).2)]) 103 b sc1,eQ (fun y:Int=>br y) kj (ix1.h 9).2 sc1.behind,bQ fq ez (ix1.h 8).2 none os1 sc1.alone,d aU 3 (ix1.h 0).1 (ix1.h 0).2 sc1.out.Tables,d aM 115 (ix1.h 1).1 (ix1.h 1).2 sc1.out.Joins,d aU 3 (ix1.h 2).1 (ix1.h 2).2 sc1.out.Keys,d bg 119 (ix1.h 3).1 (ix1.h 3).2 sc1.out.Aggs,d ah 76 (ix1.h 4).1 (ix1.h 4).2 sc1.out.Items,d aU 3 (ix1.h 6).1 (ix1.h 6).2 sc1.groups,bQ lW ez (ix1.h 7).2 none (ix1.oss 0) sc1.called]] I mixed I I I I I
     ⟨⟨[⟨0,fun _=>Z (al b 0),none⟩],_,0,1,I,⟨(fun _=>I),J⟩,I,I,I,I,I,fun _ sg1 _ _=>aK I (jM I)⟩,
     ⟨⟨[⟨0,fun _=>Z (al b 0),none⟩],_,0,0,I,⟨(fun _=>I),J⟩,I,I,I,I,I,fun _ sg1 _ _=>aK I (jM I)⟩,
     ⟨⟨[⟨95,fun _=>Z (al b 0),some 1⟩],_,0,0,I,⟨(fun _=>I),J⟩,I,I,I,I,I,fun _ sg1 _ _=>aK I (bZ (M I))⟩,
     ⟨⟨[⟨96,fun _=>Z (al b 0),some 2⟩],_,0,0,I,⟨(fun _=>I),J⟩,I,I,I,I,I,fun _ sg1 _ _=>aK I (qX 22 vx I I I)⟩,
     ⟨⟨[⟨97,fun _=>Z (al b 22),some 3⟩],_,0,0,I,⟨(fun _=>I),J⟩,I,I,I,I,I,dX (fun sg1=>aK I (fU ky I (.head _) (.tail _ (.tail _ (.tail _ (.tail _ (.tail _ (.tail _ (.tail _ (.tail _ (.head _))))))))) (M I)))⟩,
     ⟨⟨[⟨9,fun _=>bt cX e1,none⟩],_,0,0,I,⟨(fun _=>I),J⟩,I,I,I,I,I,fun _ sg1 _ _=>aK I (AC U1 Fe I I)⟩,
     ⟨⟨[⟨99,fun _=>bt aU e1.Kind,some 5⟩],_,0,0,I,⟨(fun _=>I),J⟩,I,I,I,I,I,fun _ sg1 _ _=>aK I (wx er I I)⟩,
     ⟨⟨[⟨100,fun _=>K aU e1.Kind,some 6⟩],_,0,0,I,⟨(fun _=>I),J⟩,I,I,I,I,I,fun _ sg1 _ _=>aK I (bI (r:=aU) (ys:=[e1.Kind]) (xs:=[.tmp 100]) jL er I I I I I ⟨(M I),J⟩)⟩,
     ⟨⟨[⟨98,fun _=>tO aU (ix1.h 5).1 (ix1.h 5).2 sc1.kinds,some 4⟩,⟨101,fun _=>K Fq ([e1.Kind]),some 7⟩],_,I,⟨(fun _=>I),(fun _=>I),J⟩,I,I,I,fun sg1=>bL I (EffOK.fr8 (lE er I I I I jL I (M I) (M I) q_l10))⟩,
     J⟩⟩⟩⟩⟩⟩⟩⟩⟩ (fun sg1=>?_)
    refine(show RG _ _ _ _ [_,_,_,_,_,_,_,_,_,_,_] _ from ?_);refine Q (bZ (M I))<|ca 22 vx I<|jl (EffOK.fr1 (nk (hs' :=[(10,Y (ix1.h 0).1 (ix1.h 0).2 sc1.out.Tables.length),(11,Y (ix1.h 1).1 (ix1.h 1).2 sc1.out.Joins.length),(16,Y (ix1.h 2).1 (ix1.h 2).2 sc1.out.Keys.length),(17,Y (ix1.h 3).1 (ix1.h 3).2 sc1.out.Aggs.length),(18,Y (ix1.h 4).1 (ix1.h 4).2 sc1.out.Items.length),(22,Y ((sg1 8).h 0).1 ((sg1 8).h 0).2 l10.length),(23,Y (ix1.h 6).1 (ix1.h 6).2 sc1.groups.length),(19,au (ix1.h 7).2),(20,au (ix1.h 8).2),(21,au (ix1.h 9).2)]) (u:=Y ((sg1 8).h 0).1 ((sg1 8).h 0).2 l10.length) ky I I N4 I ⟨.inr ⟨I,I⟩,.inr ⟨I,I⟩,.inr ⟨I,I⟩,.inr ⟨I,I⟩,.inr ⟨I,I⟩,.inl ⟨I,I,I⟩,.inr ⟨I,I⟩,.inr ⟨I,I⟩,.inr ⟨I,I⟩,.inr ⟨I,I⟩,J⟩ (M I) (tv (M I)) (Bi (M I)))) fun i2=>?_;refine(show RG _ _ _ _ [_,_,_,_,_,_,_,_,_,_,_] _ from ?_);refine bu<|eP D hN I<|fF<|qa<|ai<|ai<|lu<|ai<|ai<|ai<|ai<|ai<|ai ?_;exact bl (aP (ih (i1+1) ({sc1 with kinds:=l10}:ac) (WD [((ix1.h 0).1,(ix1.h 0).2),((ix1.h 1).1,(ix1.h 1).2),((ix1.h 2).1,(ix1.h 2).2),((ix1.h 3).1,(ix1.h 3).2),((ix1.h 4).1,(ix1.h 4).2),(((sg1 8).h 0).1,((sg1 8).h 0).2),((ix1.h 6).1,(ix1.h 6).2),(none,(ix1.h 7).2),(none,(ix1.h 8).2),(none,(ix1.h 9).2)] [(ix1.oss 0),os1,[]]) ⟨eg D,h⟩) (bO I))

end Go.Proofs.YtigldkegamffhaaGreatDoor

