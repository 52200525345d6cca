/- cu of this claim: P2. -/
import Derived.Test.YthbdkceckjihgaaGreatDoorBeT
import Derived.Test.YthbdkceckjihgaaGreatDoorBeP1
set_option linter.all false
namespace Go.Proofs.YthbdkceckjihgaaGreatDoor
open Go
abbrev z10(i:OI)(s:ac):=[(10,Y (i.h 0).1 (i.h 0).2 s.out.Tables.length),(11,Y (i.h 1).1 (i.h 1).2 s.out.Joins.length),(16,Y (i.h 2).1 (i.h 2).2 s.out.Keys.length),(17,Y (i.h 3).1 (i.h 3).2 s.out.Aggs.length),(18,Y (i.h 4).1 (i.h 4).2 s.out.Items.length),(22,Y (i.h 5).1 (i.h 5).2 s.kinds.length),(23,Y (i.h 6).1 (i.h 6).2 s.groups.length),(19,ak (i.h 7).2),(20,ak (i.h 8).2),(21,ak (i.h 9).2)]
set_option maxRecDepth 100000

def S4 t{R}(h:qj t=some R):dn aO 172 [K aY t] (ba R):=by
 refine eu Tryz.func172 I<|bB<|ea I<|cz<|ci<|bJ<|dM jQ I<|hU h Xu (SS _) (eS I) fun r h=>bE I<|dX I I<|dX I I<|lj I<|bH I<|aL I<|af (nZ (M I)) ?_;refine dY h I (fun h=>?_) (fun h=>?_)
 ·exact bB<|gb<|aw<|so h▸aT I I
 ·exact nw<|bB<|gb<|so h▸aT I I

def S5 t{R}(h:tt t=some R):dn aO 171 [K aY t] (ml R):=by
 exact eu Tryz.func171 I<|bB<|ea I<|dA<|ci<|bB<|dM jQ I<|hU h XG (S4 _) (eS I) fun r h=>lk I<|bm I<|so h▸aT I I

def HS l{R}(h:rC l=some R):dn aO 137 [iL (aY) l] (ml R):=by
 exact eu Tryz.func137 I<|bB<|dA<|ci<|aL I<|hU h XI (S6 _ _) ⟨(M I),(U4 XH fun x y h=>S5 _ h),J⟩ fun r h=>af (nZ (M I))<|bm I<|so h▸aT I I

def Vj s{R}(h:tu s=some R):dn aO 92 [K aB s] (ml R):=by
 refine eu Tryz.func92 I<|bB<|ea I<|dA<|ci<|bJ<|cK HJ s9 N1 I<|cK pd ll zP I<|dN sE I<|hM I<|af (Sj TM (M I) (M I))<|bE I<|br I (fE pd ll I I)<|br I (eE zP I I)<|br I (vk sE I)<|br I (fun hg=>ki (db I hg) hI)<|mp I<|bE I ?_;refine br I (fE sk mK I I)<|br I (eE AY I I)<|br I (vk xM I)<|br I (fun hg=>ki (db I hg) hI)<|mp I<|bE I<|br I (fE wA ju I I)<|br I (eE Cz I I)<|br I (vk C8 I)<|br I (fun hg=>ki (db I hg) hI)<|mp I<|dY h I (fun h=>?_) (fun h=>?_)
 ·exact bB<|dA<|ie<|aw<|so h▸aT I I
 ·refine nw<|bB<|cK QW Cg N0 I<|hU h Ug (Nl _) (eS I) fun r h=>bH I<|bJ<|cK pd ll zP I<|dN sE I<|af (bU hI)<|ci<|av<|bF (k:=41) I fun hN=>bY ?_;refine aR (gM (aA:=fun ls i ok=>(s.Items.drop i=ls)/\kZ s ls ok=some R) (Of:=fun _ i ok=>[]) (Gf:=fun _ i ok=>[(1,bn aB s),(3,ml ok),(41,iL (cF) s.Items),(42,ni s.Items),(43,ba (i:Int))]) (fun i ok h=>?_) (fun e tl ih i ok h=>?_) s.Items 0 r ⟨I,h⟩) (bI I)
  ·obtain⟨V,h⟩:=h
   refine eQ V I<|aJ<|bJ<|cK sk mK AY I<|dN xM I<|af (bU hI)<|ci<|av<|bF (k:=61) I fun hN1=>?_;refine bY ?_;refine aR (gM (aA:=fun ls1 i1 ok1=>(s.Joins.drop i1=ls1)/\kY s ls1 ok1=some R) (Of:=fun _ i1 ok1=>[]) (Gf:=fun _ i1 ok1=>[(1,bn aB s),(3,ml ok1),(61,iL (dm) s.Joins),(62,ni s.Joins),(63,ba (i1:Int))]) (fun i1 ok1 h=>?_) (fun e1 tl1 ih1 i1 ok1 h=>?_) s.Joins 0 ok ⟨I,h⟩) (bI I)
   ·obtain⟨hx1,h⟩:=h
    refine eQ hx1 I<|aJ<|bJ<|cK wA ju Cz I<|dN C8 I<|af (bU hI)<|ci<|av<|bF (k:=81) I fun hN2=>?_;refine bY ?_;refine aR (gM (aA:=fun ls2 i2 ok2=>(s.Group.drop i2=ls2)/\kX s ls2 ok2=some R) (Of:=fun _ i2 ok2=>[]) (Gf:=fun _ i2 ok2=>[(1,bn aB s),(3,ml ok2),(81,iL (d8) s.Group),(82,ni s.Group),(83,ba (i2:Int))]) (fun i2 ok2 h=>?_) (fun e2 tl2 ih2 i2 ok2 h=>?_) s.Group 0 ok1 ⟨I,h⟩) (bI I)
    ·obtain⟨hx2,h⟩:=h
     refine eQ hx2 I<|aJ<|bJ<|cK zi wv jQ I<|cK wB s8 jQ I<|af (ry (r:=aY) (ys:=[s.Where,s.Having]) (xs:=[.tmp 100,.tmp 102]) Tryz.underlying209 jQ I Wl I I ⟨(M I),(M I),J⟩)<|af (bU hI)<|ci ?_;refine av<|bY ?_;refine aR (NF (aA:=fun k i3 ok3=>(2-i3=k)/\mR s k i3 ok3=some R) (Of:=fun _ i3 ok3=>[]) (Gf:=fun _ i3 ok3=>[(3,ml ok3),(103,K (o8 aY 2) ([s.Where,s.Having])),(104,ba (i3:Int))]) (fun i3 ok3 h=>?_) (fun k1 ih3 i3 ok3 h=>?_) 2 0 ok2 ⟨I,h⟩) (bI I)
     ·obtain⟨hx3,h⟩:=h
      exact gR<|bB<|af (jn (M I) hI)<|ci<|aM<|qz (M I) (Qz hx3)<|gZ<|aH<|aH<|dK<|aJ<|aL I<|bm I<|so h▸aT I I
     ·obtain⟨hx3,h⟩:=h
      refine gR<|bB<|af (jn (M I) hI)<|ci<|aM<|qy (M I) (Qy hx3)<|nw<|aM<|av<|bB<|cI h fun e4 q_e4 h=>af (xj Tryz.underlying209 jQ I I (M I) (M I) q_e4)<|aW jQ qV I fun b=>cm jQ am I<|aX 11 I<|ci<|bg<|bE I<|bE I ?_;refine cI h fun t q_t h=>aI I (fE pR kQ I I)<|aI I (eE AX I I)<|aI I (vk tU I)<|aI I (oK I)<|aI I (vj I) ?_
      obtain⟨t1,h1t,h0t⟩:=og q_t
      have q_t1g:=fun H=>(h1t H).1
      refine gL I I I I (fun hg=>ur jQ I I)<|gL I I I I (fun hg=>aZ (r:=aY) (ys:=[e4]) (xs:=[.tmp 114]) If jQ I I I I I ⟨(db I hg),J⟩) ?_
      obtain⟨r1,h1t1,h0t1⟩:=Wu q_t1g
      have q_r1g:=fun H=>(h1t1 H).1
      refine gL I I I I (fun hg=>bL Rr (HS _ (q_r1g hg)) ⟨(db I hg),J⟩)<|aI I (fun hg=>fy (db I hg) (fun H=>(db I (vK hg (vG H)))) (fun H=>(h1t1 (vK hg H)).2) (fun H=>h0t1 hg H))<|af (cW (M I) (fun H=>(db I H)) (fun H=>(h1t H).2) h0t)<|lj I<|bN<|bR<|aJ<|bg<|af (uG (OD hx3 (by decide)) (M I) hI)<|bE I<|bN ?_;exact bu (aR (ih3 (i3+1) t ⟨OC hx3,h⟩) (bI I))
    ·obtain⟨hx2,h⟩:=h
     refine eP hx2 I<|aM<|av<|bB<|jB C8 AW I (fF hx2)<|aW AW CP I fun b1=>cm AW am I<|aX 9 I<|ci<|bg<|bE I<|bE I ?_;refine cI h fun t2 q_t2 h=>aI I (fE QR Bv I I)<|aI I (eE oH I I) ?_
     obtain⟨r2,h1t2,h0t2⟩:=og q_t2
     have q_r2g:=fun H=>(h1t2 H).1
     refine aI I (fun hg=>bL JI (wC _ (q_r2g hg)) ⟨(db I hg),J⟩)<|af (cW (M I) (fun H=>(db I H)) (fun H=>(h1t2 H).2) h0t2)<|bE I<|cI h fun t3 q_t3 h=>aI I (fE QS Bw I I)<|aI I (eE oH I I) ?_
     obtain⟨r3,h1t3,h0t3⟩:=og q_t3
     have q_r3g:=fun H=>(h1t3 H).1
     refine aI I (fun hg=>bL Nv (C4 _ (q_r3g hg)) ⟨(db I hg),J⟩)<|af (cW (M I) (fun H=>(db I H)) (fun H=>(h1t3 H).2) h0t3)<|lj I<|bN<|eB hx2 hN2 I ?_;exact bu (aR (ih2 (i2+1) t3 ⟨ee hx2,h⟩) (bI I))
   ·obtain⟨hx1,h⟩:=h
    refine eP hx1 I<|aM<|av<|bB<|jB xM uv I (fF hx1)<|aW uv CQ I fun b2=>cm uv am I<|aX 7 I<|ci<|bg<|bE I<|bE I ?_;refine cI h fun t4 q_t4 h=>aI I (fE Bx xo I I)<|aI I (eE jQ I I)<|aI I (fun hg=>aZ (r:=aY) (ys:=[e1.On]) (xs:=[.tmp 70]) If jQ I I I I I ⟨(db I hg),J⟩) ?_
    obtain⟨r4,h1t4,h0t4⟩:=og q_t4
    have q_r4g:=fun H=>(h1t4 H).1
    refine aI I (fun hg=>bL Rr (HS _ (q_r4g hg)) ⟨(db I hg),J⟩)<|af (cW (M I) (fun H=>(db I H)) (fun H=>(h1t4 H).2) h0t4)<|bE I<|cI h fun t5 q_t5 h=>aI I (fE QU Gx I I)<|aI I (eE N0 I I) ?_
    obtain⟨r5,h1t5,h0t5⟩:=og q_t5
    have q_r5g:=fun H=>(h1t5 H).1
    refine aI I (fun hg=>bL Ug (Nl _ (q_r5g hg)) ⟨(db I hg),J⟩)<|af (cW (M I) (fun H=>(db I H)) (fun H=>(h1t5 H).2) h0t5)<|lj I<|bN<|eB hx1 hN1 I ?_;exact bu (aR (ih1 (i1+1) t5 ⟨ee hx1,h⟩) (bI I))
  ·obtain⟨V,h⟩:=h
   refine eP V I<|aM<|av<|bB<|jB sE oP I (fF V)<|aW oP uq I fun b3=>cm oP am I<|aX 5 I<|ci<|bg<|bE I<|bE I ?_;refine cI h fun t6 q_t6 h=>aI I (fE tK oy I I)<|aI I (eE jQ I I)<|aI I (fun hg=>aZ (r:=aY) (ys:=[e.Tree]) (xs:=[.tmp 50]) If jQ I I I I I ⟨(db I hg),J⟩) ?_
   obtain⟨r6,h1t6,h0t6⟩:=og q_t6
   have q_r6g:=fun H=>(h1t6 H).1
   refine aI I (fun hg=>bL Rr (HS _ (q_r6g hg)) ⟨(db I hg),J⟩)<|af (cW (M I) (fun H=>(db I H)) (fun H=>(h1t6 H).2) h0t6)<|bE I<|cI h fun t7 q_t7 h=>aI I (fE QT Gy I I)<|aI I (eE oH I I) ?_
   obtain⟨r7,h1t7,h0t7⟩:=og q_t7
   have q_r7g:=fun H=>(h1t7 H).1
   refine aI I (fun hg=>bL Nv (C4 _ (q_r7g hg)) ⟨(db I hg),J⟩)<|af (cW (M I) (fun H=>(db I H)) (fun H=>(h1t7 H).2) h0t7)<|lj I<|bN<|eB V hN I ?_;exact bu (aR (ih (i+1) t7 ⟨ee V,h⟩) (bI I))

def Vk s{R}(h:qv s=some R):dn aO 91 [K aB s] (ml R):=by
 exact eu Tryz.func91 I<|bB<|ea I<|dA<|ci<|bB<|dM np I<|hU h YN (Vj _) (eS I) fun r h=>af (nZ (M I))<|bm I<|so h▸aT I I

def Vz q{R}(h:xA q=some R):dn aO 39 [K bd q] (ba R):=by
 refine eu Tryz.func39 I<|bB<|ea I<|cz<|ci<|bB<|cK pe oa yQ I<|dN sF I<|af (ki (M I) hI)<|bE I<|aI I (fE pe oa I I)<|aI I (eE yQ I I)<|aI I (vk sF I)<|aI I (fun hg=>n5 (db I hg) hI)<|jp I<|bE I<|aI I (fE tL n9 I I)<|aI I (eE CA I I)<|aI I (vk AQ I)<|aI I (fun hg=>n5 (db I hg) hI) ?_;refine jp I<|bE I<|cI h fun t q_t h=>aI I (fE Ln zg I I)<|aI I (eE dC I I)<|aI I (oK I)<|aI I (vj I) ?_
 obtain⟨t1,h1t,h0t⟩:=og q_t
 have q_t1g:=fun H=>(h1t H).1
 refine gL I I I I (fun hg=>yb Ln zg I I)<|gL I I I I (fun hg=>nO dC I I (db I hg)) ?_
 obtain⟨r,h1t1,h0t1⟩:=Wu q_t1g
 have q_rg:=fun H=>(h1t1 H).1
 refine gL I I I I (fun hg=>bL Xc (Q0 _ (q_rg hg)) ⟨(db I hg),J⟩)<|aI I (fun hg=>fy (db I hg) (fun H=>(db I (vK hg (vG H)))) (fun H=>(h1t1 (vK hg H)).2) (fun H=>h0t1 hg H))<|af (cW (M I) (fun H=>(db I H)) (fun H=>(h1t H).2) h0t)<|bH I<|bJ<|cK tL n9 CA I<|dN AQ I<|af (bU hI)<|ci<|av<|bF (k:=33) I fun hN=>bY ?_;refine aR (gM (aA:=fun ls i ok=>(q.Keys.drop i=ls)/\nd q ls ok=some R) (Of:=fun _ i ok=>[]) (Gf:=fun _ i ok=>[(1,bn bd q),(3,ml ok),(33,iL (d5) q.Keys),(34,ni q.Keys),(35,ba (i:Int))]) (fun i ok h=>?_) (fun e tl ih i ok h=>?_) q.Keys 0 t ⟨I,h⟩) (bI I)
 ·obtain⟨V,h⟩:=h
  refine eQ V I<|aJ<|bJ<|bE I<|af (nZ (M I))<|bE I<|cI h fun t2 q_t2 h=>br I (fE pe oa I I)<|br I (eE yQ I I) ?_
  obtain⟨r1,h1t2,h0t2⟩:=og q_t2
  have q_r1g:=fun H=>(h1t2 H).1
  refine br I (fun hg=>bL YP (Vl _ _ (q_r1g hg)) ⟨(db I hg),(U4 YO fun x y h=>Vk _ h),J⟩)<|af (fy (M I) (fun H=>(db I (vG H))) (fun H=>(h1t2 H).2) h0t2)<|dY h I (fun h=>?_) (fun h=>?_)
  ·exact bB<|gb<|aw<|so h▸aT I I
  ·exact nw<|bB<|gb<|so h▸aT I I
 ·obtain⟨V,h⟩:=h
  refine eP V I<|aM<|av<|bB<|jB AQ yP I (fF V)<|aW yP GY I fun b=>cm yP am I<|aX 5 I<|ci<|bg<|bE I<|bE I ?_;refine cI h fun t3 q_t3 h=>aI I (fE ED wx I I)<|aI I (eE oH I I)<|aI I (fun hg=>qd (db I hg) hS)<|aI I (vj I) ?_
  obtain⟨t4,h1t3,h0t3⟩:=og q_t3
  have q_t4g:=fun H=>(h1t3 H).1
  refine fa I I I I (fun hg=>yb EC ww I I)<|fa I I I I (fun hg=>nO dC I I (db I hg)) ?_
  obtain⟨r2,h1t4,h0t4⟩:=Wu q_t4g
  have q_r2g:=fun H=>(h1t4 H).1
  refine fa I I I I (fun hg=>bL Xc (Q0 _ (q_r2g hg)) ⟨(db I hg),J⟩)<|aI I (fun hg=>cW (db I hg) (fun H=>(db I (vK hg H))) (fun H=>(h1t4 (vK hg H)).2) (fun H=>h0t4 hg H))<|aI I (vj I) ?_
  obtain⟨t5,h1t3⟩:=U0 (fun H=>(h1t3 H).2)
  have q_t5g:=fun H=>(h1t3 H).1
  refine gL I I I I (fun hg=>yb ED wx I I)<|gL I I I I (fun hg=>nO oH I I (db I hg)) ?_
  obtain⟨r3,h1t5,h0t5⟩:=Wu q_t5g
  have q_r3g:=fun H=>(h1t5 H).1
  refine gL I I I I (fun hg=>bL JI (wC _ (q_r3g hg)) ⟨(db I hg),J⟩)<|gL I I I I (fun hg=>bU (db I hg))<|fa I I I I (fun hg=>yb EC ww I I)<|fa I I I I (fun hg=>nO dC I I (db I hg))<|fa I I I I (fun hg=>qe (db I hg) hI)<|gL I I I I (fun hg=>lv (db I hg) (fun H=>(db I (vK hg H))))<|aI I (fun hg=>fy (db I hg) (fun H=>(db I (vK hg (vG H)))) (fun H=>(h1t5 (vK hg H)).2) (fun H=>h0t5 hg H))<|af (cW (M I) (fun H=>(db I H)) (fun H=>(h1t3 H).2) h0t3)<|lj I<|bN<|eB V hN I ?_;exact bu (aR (ih (i+1) t3 ⟨ee V,h⟩) (bI I))

def S3 c name{R}(h:nb c name=some R):dn aO 173 [K bX c,K rS name] (tT [ba R.1,ml R.2]):=by
 exact eu Tryz.func173 I<|bB<|ea I<|cz<|dA<|ci<|bB<|cK tM lC Dq I<|bE I<|hU h Ui (Nn _ _ _) ⟨(M I),(U4 Xd fun x y h=>Q3 _ h),(M I),J⟩ fun r h=>dX I I<|dX I I<|lj I<|bm I<|so h▸fj I I I

def S2 s{R}(h:tn s=some R):dn aO 174 [K gm s] (K rS R):=by
 refine eu Tryz.func174 I<|bB<|ea I<|af (cy hS)<|ci<|bJ<|cK Lj wt oH I<|af (qd (M I) hS)<|dY h I (fun h=>?_) (fun h=>?_)
 ·exact bB<|cK Lk wu oH I<|bm I<|aw<|so h▸aT I I
 ·exact nw<|bB<|cK Lj wt oH I<|bm I<|so h▸aT I I

set_option maxHeartbeats 4000000 in
def Q9(b:Nat)(ix:OI) s p{R}(h:fV s p=some R):dZ aO 139 [Q (ai b 0),K gm p] (cA b s ix) (fun _:OI=>ba R.1) (fun j=>cA b R.2 j):=by
 refine dZ.of Tryz.func139 I I I fun w0 S0=>?_;refine(show CG _ _ _ [bx (rH ax (z10 ix s)) 127 b s,Z aG 3 (ix.h 0).1 (ix.h 0).2 s.out.Tables,Z aF 71 (ix.h 1).1 (ix.h 1).2 s.out.Joins,Z aG 3 (ix.h 2).1 (ix.h 2).2 s.out.Keys,Z aU 73 (ix.h 3).1 (ix.h 3).2 s.out.Aggs,Z ae 62 (ix.h 4).1 (ix.h 4).2 s.out.Items,Z aG 3 (ix.h 5).1 (ix.h 5).2 s.kinds,Z aG 3 (ix.h 6).1 (ix.h 6).2 s.groups,bo kq dp (ix.h 7).2 none (ix.oss 0) s.called,bo dO dp (ix.h 8).2 none (ix.oss 1) s.alone,dE (fun y:Int=>ba y) jc (ix.h 9).2 s.behind] _ from ?_);refine bB<|ea I<|cz<|ci<|aM<|cI h fun r q_r h=>?_
 refine ne (ts:=[_,_,_,_,_,_,_,_,_,_,_,_]) mixed I I
  ⟨oL I I,
  ⟨ka 12 0 I I (bC (M I)),
  ⟨ka 13 1 I I (mW 0 HO I I I),
  ⟨ka 14 2 I I (aV (r:=rH ax (z10 ix s)) (x:=s) rN I I (rm ze) (.head _) (M I)),
  ⟨xQ 3 I I (yb Lk wu I I),
  ⟨yM 4 oH I I,
  ⟨oF 15 3 17 5 I I I (bL XF (S3 _ _ q_r) ⟨(M I),(M I),J⟩),
  ⟨ka 18 6 I I (jz I),
  ⟨ka 11 7 I I (yK I I),
  ⟨ka 11 7 I I (yK I I),
  ⟨ka 19 8 I I (FQ I),
  ⟨ka 20 9 I I (FQ I),
  J⟩⟩⟩⟩⟩⟩⟩⟩⟩⟩⟩⟩ ?_
 refine aJ<|bB<|dM N0 I<|hU h XE (S2 _) (eS I) fun r1 h=>bH I<|aM<|av<|aL I<|af (nZ (M I))<|bH I<|tY h I (fun h=>?_) (fun h=>?_)
 ·exact bB<|gb<|dP<|so h▸dG I ix I I (fun _ _ h=>h)
 ·refine aL I<|af (bC (M I))<|bt 19 Na I<|af (nC TV I (.head _) (M I))<|bE I<|af (KP (γ:=fun y:Bool=>K rB y) (z:=false) Tryz.underlying123 (Ah ik) zv4 (fun S=>⟨_,I,(fun _=>I) S⟩) (.tail _ (.tail _ (.tail _ (.tail _ (.tail _ (.tail _ (.tail _ (.tail _ (.head _))))))))) (M I) (QH (M I)))<|bH I<|tY h I (fun h=>?_) (fun h=>?_)
  ·exact bB<|gb<|dP<|so h▸dG I ix I I (fun _ _ h=>h)
  ·refine co<|bR<|aJ<|aL I<|af (bC (M I))<|bt 19 Na I<|af (nC TV I (.head _) (M I))<|bE I<|Pk<|TD (γ:=fun y:Bool=>ml y) Tryz.underlying123 (Ah ik) (M I) (QH (M I)) hB fun os=>cE<|LP (r' :=rH ax (z10 ix s)) (x' :=({s with called:=(ir s.called r1 true)}:ac)) (fun _ _ _ _ h=>h) ?_;refine(show RG _ _ _ _ [_,_,_,_,_,_,_,_,_,_,_] _ from ?_);refine ci<|aL I<|bE I<|af (bC (M I))<|bt 10 fi I<|bt 10 Li I<|af (ed kc I (.head _) (.tail _ (.tail _ (.head _))) (M I))<|bE I<|af (aZ (r:=aG) (ys:=[r.1]) (xs:=[.tmp 44]) iO dC I I I I I ⟨(M I),J⟩)<|ib<|cI h fun l q_l h=>oe dC I I I I iO I I (M I) (M I) q_l fun l1 c=>af (bC (M I))<|bt 10 fi I<|bt 10 Li I<|iy (EffOK.fr1 (lG (hs' :=[(10,Y l1 c l.length),(11,Y (ix.h 1).1 (ix.h 1).2 s.out.Joins.length),(16,Y (ix.h 2).1 (ix.h 2).2 s.out.Keys.length),(17,Y (ix.h 3).1 (ix.h 3).2 s.out.Aggs.length),(18,Y (ix.h 4).1 (ix.h 4).2 s.out.Items.length),(22,Y (ix.h 5).1 (ix.h 5).2 s.kinds.length),(23,Y (ix.h 6).1 (ix.h 6).2 s.groups.length),(19,ak (ix.h 7).2),(20,ak (ix.h 8).2),(21,ak (ix.h 9).2)]) (u:=Y l1 c l.length) kc I I (kG gi ke Hn) I ⟨.inl ⟨I,I,I⟩,.inr ⟨I,I⟩,.inr ⟨I,I⟩,.inr ⟨I,I⟩,.inr ⟨I,I⟩,.inr ⟨I,I⟩,.inr ⟨I,I⟩,.inr ⟨I,I⟩,.inr ⟨I,I⟩,.inr ⟨I,I⟩,J⟩ (M I) (qZ (M I)) (vX (M I)))) fun i=>?_;refine(show RG _ _ _ _ [_,_,_,_,_,_,_,_,_,_,_] _ from ?_);refine cI h fun sc q_sc h=>jM (O' :=[bx (rH ax [(10,Y l1 c sc.out.Tables.length),(11,Y (ix.h 1).1 (ix.h 1).2 sc.out.Joins.length),(16,Y (ix.h 2).1 (ix.h 2).2 sc.out.Keys.length),(17,Y (ix.h 3).1 (ix.h 3).2 sc.out.Aggs.length),(18,Y (ix.h 4).1 (ix.h 4).2 sc.out.Items.length),(22,Y (ix.h 5).1 (ix.h 5).2 sc.kinds.length),(23,Y (ix.h 6).1 (ix.h 6).2 sc.groups.length),(19,ak (ix.h 7).2),(20,ak (ix.h 8).2),(21,ak (ix.h 9).2)]) 127 b sc,Z aG 3 l1 c sc.out.Tables,bo kq dp (ix.h 7).2 none os sc.called,Z aF 71 (ix.h 1).1 (ix.h 1).2 sc.out.Joins,Z aG 3 (ix.h 2).1 (ix.h 2).2 sc.out.Keys,Z aU 73 (ix.h 3).1 (ix.h 3).2 sc.out.Aggs,Z ae 62 (ix.h 4).1 (ix.h 4).2 sc.out.Items,Z aG 3 (ix.h 5).1 (ix.h 5).2 sc.kinds,Z aG 3 (ix.h 6).1 (ix.h 6).2 sc.groups,bo dO dp (ix.h 8).2 none (ix.oss 1) sc.alone,dE (fun y:Int=>ba y) jc (ix.h 9).2 sc.behind]) (by cases so q_sc;exact I)<|ci<|bJ<|bE I<|af (bC (M I))<|bt 0 HO I<|bt 0 tM I<|af (aV (r:=rH ax [(10,Y l1 c sc.out.Tables.length),(11,Y (ix.h 1).1 (ix.h 1).2 sc.out.Joins.length),(16,Y (ix.h 2).1 (ix.h 2).2 sc.out.Keys.length),(17,Y (ix.h 3).1 (ix.h 3).2 sc.out.Aggs.length),(18,Y (ix.h 4).1 (ix.h 4).2 sc.out.Items.length),(22,Y (ix.h 5).1 (ix.h 5).2 sc.kinds.length),(23,Y (ix.h 6).1 (ix.h 6).2 sc.groups.length),(19,ak (ix.h 7).2),(20,ak (ix.h 8).2),(21,ak (ix.h 9).2)]) (x:=sc) Dq I I (rm (fz ze lC)) (.head _) (M I))<|bE I<|cI h fun e q_e h=>vh vP mq I q_e<|cK ro mJ zQ I<|dN tW I<|af (bU hI)<|ci<|av<|bF (k:=58) I fun hN=>bY ?_;refine eg<|eg<|BH<|eg<|eg<|eg<|eg<|eg<|eg<|eg<|eg ?_;refine aR (sB (aA:=fun ls i1 ob ix1=>(e.Columns.drop i1=ls)/\fB r1 ls ob=some R) (Of:=fun _ i1 ob (ix1:OI)=>[bx (rH ax (z10 ix1 ob)) 127 b ob,Z aG 3 (ix1.h 0).1 (ix1.h 0).2 ob.out.Tables,Z aF 71 (ix1.h 1).1 (ix1.h 1).2 ob.out.Joins,Z aG 3 (ix1.h 2).1 (ix1.h 2).2 ob.out.Keys,Z aU 73 (ix1.h 3).1 (ix1.h 3).2 ob.out.Aggs,Z ae 62 (ix1.h 4).1 (ix1.h 4).2 ob.out.Items,Z aG 3 (ix1.h 5).1 (ix1.h 5).2 ob.kinds,Z aG 3 (ix1.h 6).1 (ix1.h 6).2 ob.groups,bo kq dp (ix1.h 7).2 none (ix1.oss 0) ob.called,bo dO dp (ix1.h 8).2 none (ix1.oss 1) ob.alone,dE (fun y:Int=>ba y) jc (ix1.h 9).2 ob.behind]) (Gf:=fun _ i1 ob ix1=>[(0,Q (ai b 0)),(7,K rS r1),(58,iL (cr) e.Columns),(59,ni e.Columns),(60,ba (i1:Int))]) (fun i1 ob ix1 h=>?_) (fun e1 tl ih i1 ob ix1 h=>?_) e.Columns 0 sc (Sm [(l1,c),((ix.h 1).1,(ix.h 1).2),((ix.h 2).1,(ix.h 2).2),((ix.h 3).1,(ix.h 3).2),((ix.h 4).1,(ix.h 4).2),((ix.h 5).1,(ix.h 5).2),((ix.h 6).1,(ix.h 6).2),(none,(ix.h 7).2),(none,(ix.h 8).2),(none,(ix.h 9).2)] [os,(ix.oss 1),[]]) ⟨I,h⟩) (bI I)
   ·obtain⟨V,h⟩:=h
    exact eQ V I<|aJ<|bB<|gb<|so h▸dG I ix1 I I (fun _ _ h=>h)
   ·obtain⟨V,h⟩:=h
    refine eP V I<|aM<|av<|bB<|jB tW lN I (fF V)<|aW lN pD I fun b1=>cm lN am I<|aX 9 I<|ci<|aL I ?_;refine af (bC (M I))<|bt 22 te I<|af (ed kc I (.head _) (.tail _ (.tail _ (.tail _ (.tail _ (.tail _ (.tail _ (.head _))))))) (M I))<|af (mE iO (qZ (M I)))<|bH I<|aM<|cI h fun l9 q_l9 h=>?_
    refine eH 16 [tc (Q (ai b 0)),tc (Q (ai b 0)),tc (Q (ai b 20)),tc (Q (ak (ix1.h 8).2)),tc (bn rS e1.Name),tc (K rS e1.Name),tc (Q (ai b 0)),tc (Q (ai b 0)),tc (Q (ai b 20)),tc (Q (ak (ix1.h 8).2)),tc (bn rS e1.Name),tc (K rS e1.Name),([12],fun s=>tO aG ((s.getD 0 nj).h 0).1 ((s.getD 0 nj).h 0).2 ((fP ob.alone e1.Name).getD [])),tc (ni ob.kinds),tc (yC ([(ob.kinds.length:Int)])),([15],fun s=>tO aG ((s.getD 0 nj).h 0).1 ((s.getD 0 nj).h 0).2 l9)] [false,false,false,false,false,false,false,false,false,false,false,false,true,false,false,true] [fun _=>[bx (rH ax (z10 ix1 ob)) 127 b ob,Z aG 3 (ix1.h 0).1 (ix1.h 0).2 ob.out.Tables,Z aF 71 (ix1.h 1).1 (ix1.h 1).2 ob.out.Joins,Z aG 3 (ix1.h 2).1 (ix1.h 2).2 ob.out.Keys,Z aU 73 (ix1.h 3).1 (ix1.h 3).2 ob.out.Aggs,Z ae 62 (ix1.h 4).1 (ix1.h 4).2 ob.out.Items,Z aG 3 (ix1.h 5).1 (ix1.h 5).2 ob.kinds,Z aG 3 (ix1.h 6).1 (ix1.h 6).2 ob.groups,bo kq dp (ix1.h 7).2 none (ix1.oss 0) ob.called,bo dO dp (ix1.h 8).2 none (ix1.oss 1) ob.alone,dE (fun y:Int=>ba y) jc (ix1.h 9).2 ob.behind],fun sg=>[Z aG 3 ((sg 12).h 0).1 ((sg 12).h 0).2 ((fP ob.alone e1.Name).getD []),bo dO dp (ix1.h 8).2 (some e1.Name) (sg 12).os ob.alone,bx (rH ax (z10 ix1 ob)) 127 b ob,Z aG 3 (ix1.h 0).1 (ix1.h 0).2 ob.out.Tables,Z aF 71 (ix1.h 1).1 (ix1.h 1).2 ob.out.Joins,Z aG 3 (ix1.h 2).1 (ix1.h 2).2 ob.out.Keys,Z aU 73 (ix1.h 3).1 (ix1.h 3).2 ob.out.Aggs,Z ae 62 (ix1.h 4).1 (ix1.h 4).2 ob.out.Items,Z aG 3 (ix1.h 5).1 (ix1.h 5).2 ob.kinds,Z aG 3 (ix1.h 6).1 (ix1.h 6).2 ob.groups,bo kq dp (ix1.h 7).2 none (ix1.oss 0) ob.called,dE (fun y:Int=>ba y) jc (ix1.h 9).2 ob.behind],fun sg=>[Z aG 3 ((sg 15).h 0).1 ((sg 15).h 0).2 l9,bo dO dp (ix1.h 8).2 (some e1.Name) (sg 12).os ob.alone,bx (rH ax (z10 ix1 ob)) 127 b ob,Z aG 3 (ix1.h 0).1 (ix1.h 0).2 ob.out.Tables,Z aF 71 (ix1.h 1).1 (ix1.h 1).2 ob.out.Joins,Z aG 3 (ix1.h 2).1 (ix1.h 2).2 ob.out.Keys,Z aU 73 (ix1.h 3).1 (ix1.h 3).2 ob.out.Aggs,Z ae 62 (ix1.h 4).1 (ix1.h 4).2 ob.out.Items,Z aG 3 (ix1.h 5).1 (ix1.h 5).2 ob.kinds,Z aG 3 (ix1.h 6).1 (ix1.h 6).2 ob.groups,bo kq dp (ix1.h 7).2 none (ix1.oss 0) ob.called,dE (fun y:Int=>ba y) jc (ix1.h 9).2 ob.behind]] I mixed I I I I I
     ⟨⟨[⟨0,fun _=>Q (ai b 0),none⟩],_,0,2,I,⟨(fun _=>I),J⟩,I,I,I,I,I,fun _ sg _ _=>aC I (jz I)⟩,
     ⟨⟨[⟨69,fun _=>Q (ai b 0),some 0⟩],_,0,2,I,⟨(fun _=>I),J⟩,I,I,I,I,I,fun _ sg _ _=>aC I (bC (M I))⟩,
     ⟨⟨[⟨70,fun _=>Q (ai b 0),some 1⟩],_,0,2,I,⟨(fun _=>I),J⟩,I,I,I,I,I,fun _ sg _ _=>aC I (mW 20 HN I I I)⟩,
     ⟨⟨[⟨71,fun _=>Q (ai b 20),some 2⟩],_,0,2,I,⟨(fun _=>I),J⟩,I,I,I,I,I,pF (fun sg=>aC I (nC Iv I (.head _) (M I))) (pF (fun sg=>aC I (nC Iv I (.tail _ (.tail _ (.head _))) (M I))) (eD (fun sg=>aC I (nC Iv I (.tail _ (.tail _ (.head _))) (M I)))))⟩,
     ⟨⟨[⟨9,fun _=>bn cr e1,none⟩],_,0,2,I,⟨(fun _=>I),J⟩,I,I,I,I,I,fun _ sg _ _=>aC I (yb Ap qt I I)⟩,
     ⟨⟨[⟨73,fun _=>bn rS e1.Name,some 4⟩],_,0,2,I,⟨(fun _=>I),J⟩,I,I,I,I,I,fun _ sg _ _=>aC I (ur oH I I)⟩,
     ⟨⟨[⟨0,fun _=>Q (ai b 0),none⟩],_,0,0,I,⟨(fun _=>I),J⟩,I,I,I,I,I,fun _ sg _ _=>aC I (jz I)⟩,
     ⟨⟨[⟨75,fun _=>Q (ai b 0),some 6⟩],_,0,0,I,⟨(fun _=>I),J⟩,I,I,I,I,I,fun _ sg _ _=>aC I (bC (M I))⟩,
     ⟨⟨[⟨76,fun _=>Q (ai b 0),some 7⟩],_,0,0,I,⟨(fun _=>I),J⟩,I,I,I,I,I,fun _ sg _ _=>aC I (mW 20 HN I I I)⟩,
     ⟨⟨[⟨77,fun _=>Q (ai b 20),some 8⟩],_,0,0,I,⟨(fun _=>I),J⟩,I,I,I,I,I,eD (fun sg=>aC I (nC Iv I (.head _) (M I)))⟩,
     ⟨⟨[⟨9,fun _=>bn cr e1,none⟩],_,0,0,I,⟨(fun _=>I),J⟩,I,I,I,I,I,fun _ sg _ _=>aC I (yb Ap qt I I)⟩,
     ⟨⟨[⟨79,fun _=>bn rS e1.Name,some 10⟩],_,0,0,I,⟨(fun _=>I),J⟩,I,I,I,I,I,fun _ sg _ _=>aC I (ur oH I I)⟩,
     ⟨⟨[⟨78,fun _=>Q (ak (ix1.h 8).2),some 9⟩,⟨80,fun _=>K rS e1.Name,some 11⟩],_,I,⟨(fun _=>I),(fun _=>I),J⟩,I,I,I,fun sg=>bw I (EffOK.fr9 (O0 Tryz.underlying124 (Ah ik) V1 (M I) (QH (M I))))⟩,
     ⟨⟨[⟨10,fun _=>K aG (ob.kinds.length:Int),none⟩],_,0,1,I,⟨(fun _=>I),J⟩,I,I,I,I,I,fun _ sg _ _=>aC I (jz I)⟩,
     ⟨⟨[⟨82,fun _=>K aG (ob.kinds.length:Int),some 13⟩],_,0,1,I,⟨(fun _=>I),J⟩,I,I,I,I,I,fun _ sg _ _=>aC I (aZ (r:=aG) (ys:=[(ob.kinds.length:Int)]) (xs:=[.tmp 82]) iO dC I I I I I ⟨(M I),J⟩)⟩,
     ⟨⟨[⟨81,fun sg=>tO aG ((sg 12).h 0).1 ((sg 12).h 0).2 ((fP ob.alone e1.Name).getD []),some 12⟩,⟨83,fun _=>K Ct ([(ob.kinds.length:Int)]),some 14⟩],_,I,⟨(fun _=>I),(fun _=>I),J⟩,I,I,I,fun sg=>bw I (j6 dC I I I I iO I (M I) (M I) q_l9)⟩,
     J⟩⟩⟩⟩⟩⟩⟩⟩⟩⟩⟩⟩⟩⟩⟩⟩ (fun sg=>?_)
    refine(show RG _ _ _ _ [_,_,_,_,_,_,_,_,_,_,_,_] _ from ?_);refine cE<|cE<|TE Tryz.underlying124 (Ah ik) (M I) (QH (M I)) (M I) fun os1=>cE<|LP (r' :=rH ax (z10 ix1 ob)) (x' :=({ob with alone:=(ir ob.alone e1.Name l9)}:ac)) (fun _ _ _ _ h=>h) ?_;refine(show RG _ _ _ _ [_,_,_,_,_,_,_,_,_,_,_] _ from ?_);refine ci<|aM ?_
    refine po 9 (ts:=[Q (ai b 0),Q (ai b 0),Q (ai b 21),Q (ak (ix1.h 9).2),K rS r1,bn rS e1.Name,K rS e1.Name,K d8 (⟨r1,e1.Name⟩:ig),ni ob.kinds]) mixed I I I
     ⟨oL I I,
     ⟨ka 85 0 I I (bC (M I)),
     ⟨ka 86 1 I I (mW 21 M0 I I I),
     ⟨ka 87 2 I I (nC TU I (.head _) (M I)),
     ⟨oL I I,
     ⟨xQ 9 I I (yb Ap qt I I),
     ⟨yM 5 oH I I,
     ⟨oF 89 4 91 6 I I I (cd (y:=(⟨r1,e1.Name⟩:ig)) AW WC CP (⟨_,_,_,_,_,I,F1,I,(M I),⟨_,_,_,_,_,I,F0,I,(M I),I⟩⟩)),
     ⟨oL I I,
     J⟩⟩⟩⟩⟩⟩⟩⟩⟩ ?_
    refine LO<|TF (γ:=fun y:Int=>ba y) Tryz.underlying125 Ww (M I) (QI (p:=((⟨r1,e1.Name⟩:ig).Table,(⟨r1,e1.Name⟩:ig).Name)) I (fun _ _ h=>Wy h) (M I)) (M I)<|cE<|LP (r' :=rH ax (z10 ix1 ob)) (x' :=({({ob with alone:=(ir ob.alone e1.Name l9)}:ac)with behind:=(ir ob.behind ((⟨r1,e1.Name⟩:ig).Table,(⟨r1,e1.Name⟩:ig).Name) (ob.kinds.length:Int))}:ac)) (fun _ _ _ _ h=>h) ?_;refine(show RG _ _ _ _ [_,_,_,_,_,_,_,_,_,_,_] _ from ?_);refine cI h fun sc1 q_sc1 h=>jM (O' :=[bx (rH ax (z10 ix1 sc1)) 127 b sc1,dE (fun y:Int=>ba y) jc (ix1.h 9).2 sc1.behind,bo dO dp (ix1.h 8).2 none os1 sc1.alone,Z aG 3 (ix1.h 0).1 (ix1.h 0).2 sc1.out.Tables,Z aF 71 (ix1.h 1).1 (ix1.h 1).2 sc1.out.Joins,Z aG 3 (ix1.h 2).1 (ix1.h 2).2 sc1.out.Keys,Z aU 73 (ix1.h 3).1 (ix1.h 3).2 sc1.out.Aggs,Z ae 62 (ix1.h 4).1 (ix1.h 4).2 sc1.out.Items,Z aG 3 (ix1.h 5).1 (ix1.h 5).2 sc1.kinds,Z aG 3 (ix1.h 6).1 (ix1.h 6).2 sc1.groups,bo kq dp (ix1.h 7).2 none (ix1.oss 0) sc1.called]) (by cases so q_sc1;exact I)<|ci<|cI h fun l10 q_l10 h=>?_
    refine eH 9 [tc (Q (ai b 0)),tc (Q (ai b 0)),tc (Q (ai b 0)),tc (Q (ai b 22)),tc (tO aG (ix1.h 5).1 (ix1.h 5).2 sc1.kinds),tc (bn aG e1.Kind),tc (ba e1.Kind),tc (yC ([e1.Kind])),([8],fun s=>tO aG ((s.getD 0 nj).h 0).1 ((s.getD 0 nj).h 0).2 l10)] [false,false,false,false,false,false,false,false,true] [fun _=>[bx (rH ax (z10 ix1 sc1)) 127 b sc1,dE (fun y:Int=>ba y) jc (ix1.h 9).2 sc1.behind,bo dO dp (ix1.h 8).2 none os1 sc1.alone,Z aG 3 (ix1.h 0).1 (ix1.h 0).2 sc1.out.Tables,Z aF 71 (ix1.h 1).1 (ix1.h 1).2 sc1.out.Joins,Z aG 3 (ix1.h 2).1 (ix1.h 2).2 sc1.out.Keys,Z aU 73 (ix1.h 3).1 (ix1.h 3).2 sc1.out.Aggs,Z ae 62 (ix1.h 4).1 (ix1.h 4).2 sc1.out.Items,Z aG 3 (ix1.h 5).1 (ix1.h 5).2 sc1.kinds,Z aG 3 (ix1.h 6).1 (ix1.h 6).2 sc1.groups,bo kq dp (ix1.h 7).2 none (ix1.oss 0) sc1.called],fun sg1=>[Z aG 3 ((sg1 8).h 0).1 ((sg1 8).h 0).2 l10,bx (rH ax (z10 ix1 sc1)) 127 b sc1,dE (fun y:Int=>ba y) jc (ix1.h 9).2 sc1.behind,bo dO dp (ix1.h 8).2 none os1 sc1.alone,Z aG 3 (ix1.h 0).1 (ix1.h 0).2 sc1.out.Tables,Z aF 71 (ix1.h 1).1 (ix1.h 1).2 sc1.out.Joins,Z aG 3 (ix1.h 2).1 (ix1.h 2).2 sc1.out.Keys,Z aU 73 (ix1.h 3).1 (ix1.h 3).2 sc1.out.Aggs,Z ae 62 (ix1.h 4).1 (ix1.h 4).2 sc1.out.Items,Z aG 3 (ix1.h 6).1 (ix1.h 6).2 sc1.groups,bo kq dp (ix1.h 7).2 none (ix1.oss 0) sc1.called]] I mixed I I I I I
     ⟨⟨[⟨0,fun _=>Q (ai b 0),none⟩],_,0,1,I,⟨(fun _=>I),J⟩,I,I,I,I,I,fun _ sg1 _ _=>aC I (jz I)⟩,
     ⟨⟨[⟨0,fun _=>Q (ai b 0),none⟩],_,0,0,I,⟨(fun _=>I),J⟩,I,I,I,I,I,fun _ sg1 _ _=>aC I (jz I)⟩,
     ⟨⟨[⟨95,fun _=>Q (ai b 0),some 1⟩],_,0,0,I,⟨(fun _=>I),J⟩,I,I,I,I,I,fun _ sg1 _ _=>aC I (bC (M I))⟩,
     ⟨⟨[⟨96,fun _=>Q (ai b 0),some 2⟩],_,0,0,I,⟨(fun _=>I),J⟩,I,I,I,I,I,fun _ sg1 _ _=>aC I (mW 22 te I I I)⟩,
     ⟨⟨[⟨97,fun _=>Q (ai b 22),some 3⟩],_,0,0,I,⟨(fun _=>I),J⟩,I,I,I,I,I,eD (fun sg1=>aC I (ed kc I (.head _) (.tail _ (.tail _ (.tail _ (.tail _ (.tail _ (.tail _ (.tail _ (.tail _ (.head _))))))))) (M I)))⟩,
     ⟨⟨[⟨9,fun _=>bn cr e1,none⟩],_,0,0,I,⟨(fun _=>I),J⟩,I,I,I,I,I,fun _ sg1 _ _=>aC I (yb Nb Ch I I)⟩,
     ⟨⟨[⟨99,fun _=>bn aG e1.Kind,some 5⟩],_,0,0,I,⟨(fun _=>I),J⟩,I,I,I,I,I,fun _ sg1 _ _=>aC I (ur dC I I)⟩,
     ⟨⟨[⟨100,fun _=>K aG e1.Kind,some 6⟩],_,0,0,I,⟨(fun _=>I),J⟩,I,I,I,I,I,fun _ sg1 _ _=>aC I (aZ (r:=aG) (ys:=[e1.Kind]) (xs:=[.tmp 100]) iO dC I I I I I ⟨(M I),J⟩)⟩,
     ⟨⟨[⟨98,fun _=>tO aG (ix1.h 5).1 (ix1.h 5).2 sc1.kinds,some 4⟩,⟨101,fun _=>K Ct ([e1.Kind]),some 7⟩],_,I,⟨(fun _=>I),(fun _=>I),J⟩,I,I,I,fun sg1=>bw I (EffOK.fr8 (j6 dC I I I I iO I (M I) (M I) q_l10))⟩,
     J⟩⟩⟩⟩⟩⟩⟩⟩⟩ (fun sg1=>?_)
    refine(show RG _ _ _ _ [_,_,_,_,_,_,_,_,_,_,_] _ from ?_);refine af (bC (M I))<|bt 22 te I<|iy (EffOK.fr1 (lG (hs' :=[(10,Y (ix1.h 0).1 (ix1.h 0).2 sc1.out.Tables.length),(11,Y (ix1.h 1).1 (ix1.h 1).2 sc1.out.Joins.length),(16,Y (ix1.h 2).1 (ix1.h 2).2 sc1.out.Keys.length),(17,Y (ix1.h 3).1 (ix1.h 3).2 sc1.out.Aggs.length),(18,Y (ix1.h 4).1 (ix1.h 4).2 sc1.out.Items.length),(22,Y ((sg1 8).h 0).1 ((sg1 8).h 0).2 l10.length),(23,Y (ix1.h 6).1 (ix1.h 6).2 sc1.groups.length),(19,ak (ix1.h 7).2),(20,ak (ix1.h 8).2),(21,ak (ix1.h 9).2)]) (u:=Y ((sg1 8).h 0).1 ((sg1 8).h 0).2 l10.length) kc I I Kt I ⟨.inr ⟨I,I⟩,.inr ⟨I,I⟩,.inr ⟨I,I⟩,.inr ⟨I,I⟩,.inr ⟨I,I⟩,.inl ⟨I,I,I⟩,.inr ⟨I,I⟩,.inr ⟨I,I⟩,.inr ⟨I,I⟩,.inr ⟨I,I⟩,J⟩ (M I) (qZ (M I)) (vX (M I)))) fun i2=>?_;refine(show RG _ _ _ _ [_,_,_,_,_,_,_,_,_,_,_] _ from ?_);refine bN<|eB V hN I<|gT<|lg<|ah<|ah<|er<|ah<|ah<|ah<|ah<|ah<|ah ?_;exact bu (aR (ih (i1+1) ({sc1 with kinds:=l10}:ac) (Sm [((ix1.h 0).1,(ix1.h 0).2),((ix1.h 1).1,(ix1.h 1).2),((ix1.h 2).1,(ix1.h 2).2),((ix1.h 3).1,(ix1.h 3).2),((ix1.h 4).1,(ix1.h 4).2),(((sg1 8).h 0).1,((sg1 8).h 0).2),((ix1.h 6).1,(ix1.h 6).2),(none,(ix1.h 7).2),(none,(ix1.h 8).2),(none,(ix1.h 9).2)] [(ix1.oss 0),os1,[]]) ⟨ee V,h⟩) (bI I))

end Go.Proofs.YthbdkceckjihgaaGreatDoor

