/- du of this claim: P2. -/
import Derived.Test.YthbdkceckjihgaaGreatDoorBbT
import Derived.Test.YthbdkceckjihgaaGreatDoorBbP1
set_option linter.all false
namespace Go.Proofs.YthbdkceckjihgaaGreatDoor
open Go
abbrev z10(i:OI)(s:am):=[(10,J (i.h 0).1 (i.h 0).2 s.out.Tables.length),(11,J (i.h 1).1 (i.h 1).2 s.out.Joins.length),(16,J (i.h 2).1 (i.h 2).2 s.out.Keys.length),(17,J (i.h 3).1 (i.h 3).2 s.out.Aggs.length),(18,J (i.h 4).1 (i.h 4).2 s.out.Items.length),(22,J (i.h 5).1 (i.h 5).2 s.kinds.length),(23,J (i.h 6).1 (i.h 6).2 s.groups.length),(19,aG (i.h 7).2),(20,aG (i.h 8).2),(21,aG (i.h 9).2)]
set_option maxRecDepth 100000

def V1 t{R}(h:tG t=some R):cI aZ 172 [H bI t] (bd R):=by
 refine dm Tryz.func172 I<|aY<|cK I<|bG<|bO<|aT<|cC jY I<|eo h aaW (VM _) (dd I) fun r h=>aX I<|cY I I<|cY I I<|gE I<|bj I<|aH I<|Q (fV (M I)) ?_;refine bY h I (fun h=>?_) (fun h=>?_)
 ·exact aY<|dJ<|af<|so h▸aq I I
 ·exact gC<|aY<|dJ<|so h▸aq I I

def V2 t{R}(h:wH t=some R):cI aZ 171 [H bI t] (im R):=by
 exact dm Tryz.func171 I<|aY<|cK I<|bw<|bO<|aY<|cC jY I<|eo h abe (V1 _) (dd I) fun r h=>gW I<|be I<|so h▸aq I I

def Kj l{R}(h:vh l=some R):cI aZ 137 [fm (bI) l] (im R):=by
 exact dm Tryz.func137 I<|aY<|bw<|bO<|aH I<|eo h abg (V3 _ _) ⟨(M I),(UE abf fun x y h=>V2 _ h),d⟩ fun r h=>Q (fV (M I))<|be I<|so h▸aq I I

def Yq s{R}(h:wI s=some R):cI aZ 92 [H bh s] (im R):=by
 refine dm Tryz.func92 I<|aY<|cK I<|bw<|bO<|aT<|ba BQ po yG I<|ba qe jb AL I<|bW rs I<|dw I<|Q (CS FS (M I) (M I))<|aX I<|au I (bR qe jb I I)<|au I (bM AL I I)<|au I (kA rs I)<|au I (fun D=>fa (bF I D) hI)<|eu I<|aX I ?_;refine au I (bR wU nH I I)<|au I (bM Gd I I)<|au I (kA yV I)<|au I (fun D=>fa (bF I D) hI)<|eu I<|aX I<|au I (bR wS kH I I)<|au I (bM E6 I I)<|au I (kA y8 I)<|au I (fun D=>fa (bF I D) hI)<|eu I<|bY h I (fun h=>?_) (fun h=>?_)
 ·exact aY<|bw<|cw<|af<|so h▸aq I I
 ·refine gC<|aY<|ba J5 ww vU I<|eo h Xs (PK _) (dd I) fun r h=>bj I<|aT<|ba qe jb AL I<|bW rs I<|Q (bC hI)<|bO<|ai<|aO (k:=41) I fun hN=>bp ?_;refine ay (j8 (h2:=fun ls i ok=>(s.Items.drop i=ls)/\nA s ls ok=some R) (Of:=fun _ i ok=>[]) (Gf:=fun _ i ok=>[(1,bt bh s),(3,im ok),(41,fm (d9) s.Items),(42,iK s.Items),(43,bd (i:Int))]) (fun i ok h=>?_) (fun e tl ih i ok h=>?_) s.Items 0 r ⟨I,h⟩) (bb I)
  ·obtain⟨A,h⟩:=h
   refine dh A I<|av<|aT<|ba wU nH Gd I<|bW yV I<|Q (bC hI)<|bO<|ai<|aO (k:=61) I fun hN1=>?_;refine bp ?_;refine ay (j8 (h2:=fun ls1 i1 ok1=>(s.Joins.drop i1=ls1)/\nz s ls1 ok1=some R) (Of:=fun _ i1 ok1=>[]) (Gf:=fun _ i1 ok1=>[(1,bt bh s),(3,im ok1),(61,fm (fU) s.Joins),(62,iK s.Joins),(63,bd (i1:Int))]) (fun i1 ok1 h=>?_) (fun e1 tl1 ih1 i1 ok1 h=>?_) s.Joins 0 ok ⟨I,h⟩) (bb I)
   ·obtain⟨hx1,h⟩:=h
    refine dh hx1 I<|av<|aT<|ba wS kH E6 I<|bW y8 I<|Q (bC hI)<|bO<|ai<|aO (k:=81) I fun hN2=>?_;refine bp ?_;refine ay (j8 (h2:=fun ls2 i2 ok2=>(s.Group.drop i2=ls2)/\ny s ls2 ok2=some R) (Of:=fun _ i2 ok2=>[]) (Gf:=fun _ i2 ok2=>[(1,bt bh s),(3,im ok2),(81,fm (fI) s.Group),(82,iK s.Group),(83,bd (i2:Int))]) (fun i2 ok2 h=>?_) (fun e2 tl2 ih2 i2 ok2 h=>?_) s.Group 0 ok1 ⟨I,h⟩) (bb I)
    ·obtain⟨hx2,h⟩:=h
     refine dh hx2 I<|av<|aT<|ba zE rh jY I<|ba wT nG jY I<|Q (sO (r:=bI) (ys:=[s.Where,s.Having]) (xs:=[.tmp 100,.tmp 102]) Tryz.underlying209 jY I ZP I I ⟨(M I),(M I),d⟩)<|Q (bC hI)<|bO ?_;refine ai<|bp ?_;refine ay (Qm (h2:=fun k i3 ok3=>(2-i3=k)/\pB s k i3 ok3=some R) (Of:=fun _ i3 ok3=>[]) (Gf:=fun _ i3 ok3=>[(3,im ok3),(103,H (qr bI 2) ([s.Where,s.Having])),(104,bd (i3:Int))]) (fun i3 ok3 h=>?_) (fun k1 ih3 i3 ok3 h=>?_) 2 0 ok2 ⟨I,h⟩) (bb I)
     ·obtain⟨hx3,h⟩:=h
      exact dX<|aY<|Q (eP (M I) hI)<|bO<|aD<|qB (M I) (Rd hx3)<|eY<|aI<|aI<|cW<|av<|aH I<|be I<|so h▸aq I I
     ·obtain⟨hx3,h⟩:=h
      refine dX<|aY<|Q (eP (M I) hI)<|bO<|aD<|qA (M I) (Rc hx3)<|gC<|aD<|ai<|aY<|cq h fun e4 q_e4 h=>Q (xj Tryz.underlying209 jY I I (M I) (M I) q_e4)<|aV jY uI I fun b=>bL jY aj I<|aK 11 I<|bO<|aJ<|aX I<|aX I ?_;refine cq h fun t q_t h=>ap I (bR j5 eN I I)<|ap I (bM sw I I)<|ap I (kA oZ I)<|ap I (mV I)<|ap I (q7 I) ?_
      obtain⟨t1,h1t,h0t⟩:=og q_t
      have q_t1g:=fun Y=>(h1t Y).1
      refine ft I I I I (fun D=>qN jY I I)<|ft I I I I (fun D=>a8 (r:=bI) (ys:=[e4]) (xs:=[.tmp 114]) KF jY I I I I I ⟨(bF I D),d⟩) ?_
      obtain⟨r1,h1t1,h0t1⟩:=Yd q_t1g
      have q_r1g:=fun Y=>(h1t1 Y).1
      refine ft I I I I (fun D=>bn T8 (Kj _ (q_r1g D)) ⟨(bF I D),d⟩)<|ap I (fun D=>cV (bF I D) (fun Y=>(bF I (si D (nR Y)))) (fun Y=>(h1t1 (si D Y)).2) (fun Y=>h0t1 D Y))<|Q (bJ (M I) (fun Y=>(bF I Y)) (fun Y=>(h1t Y).2) h0t)<|gE I<|bz<|bq<|av<|aJ<|Q (wl (Nz hx3 (by decide)) (M I) hI)<|aX I<|bz ?_;exact aS (ay (ih3 (i3+1) t ⟨Ny hx3,h⟩) (bb I))
    ·obtain⟨hx2,h⟩:=h
     refine dg hx2 I<|aD<|ai<|aY<|dE y8 xM I (df hx2)<|aV xM z6 I fun b1=>bL xM aj I<|aK 9 I<|bO<|aJ<|aX I<|aX I ?_;refine cq h fun t2 q_t2 h=>ap I (bR JZ xr I I)<|ap I (bM jG I I) ?_
     obtain⟨r2,h1t2,h0t2⟩:=og q_t2
     have q_r2g:=fun Y=>(h1t2 Y).1
     refine ap I (fun D=>bn Mh (zF _ (q_r2g D)) ⟨(bF I D),d⟩)<|Q (bJ (M I) (fun Y=>(bF I Y)) (fun Y=>(h1t2 Y).2) h0t2)<|aX I<|cq h fun t3 q_t3 h=>ap I (bR J0 xu I I)<|ap I (bM jG I I) ?_
     obtain⟨r3,h1t3,h0t3⟩:=og q_t3
     have q_r3g:=fun Y=>(h1t3 Y).1
     refine ap I (fun D=>bn Qb (FN _ (q_r3g D)) ⟨(bF I D),d⟩)<|Q (bJ (M I) (fun Y=>(bF I Y)) (fun Y=>(h1t3 Y).2) h0t3)<|gE I<|bz<|cR hx2 hN2 I ?_;exact aS (ay (ih2 (i2+1) t3 ⟨cM hx2,h⟩) (bb I))
   ·obtain⟨hx1,h⟩:=h
    refine dg hx1 I<|aD<|ai<|aY<|dE yV xc I (df hx1)<|aV xc Cq I fun b2=>bL xc aj I<|aK 7 I<|bO<|aJ<|aX I<|aX I ?_;refine cq h fun t4 q_t4 h=>ap I (bR Eb xv I I)<|ap I (bM jY I I)<|ap I (fun D=>a8 (r:=bI) (ys:=[e1.On]) (xs:=[.tmp 70]) KF jY I I I I I ⟨(bF I D),d⟩) ?_
    obtain⟨r4,h1t4,h0t4⟩:=og q_t4
    have q_r4g:=fun Y=>(h1t4 Y).1
    refine ap I (fun D=>bn T8 (Kj _ (q_r4g D)) ⟨(bF I D),d⟩)<|Q (bJ (M I) (fun Y=>(bF I Y)) (fun Y=>(h1t4 Y).2) h0t4)<|aX I<|cq h fun t5 q_t5 h=>ap I (bR J2 An I I)<|ap I (bM vU I I) ?_
    obtain⟨r5,h1t5,h0t5⟩:=og q_t5
    have q_r5g:=fun Y=>(h1t5 Y).1
    refine ap I (fun D=>bn Xs (PK _ (q_r5g D)) ⟨(bF I D),d⟩)<|Q (bJ (M I) (fun Y=>(bF I Y)) (fun Y=>(h1t5 Y).2) h0t5)<|gE I<|bz<|cR hx1 hN1 I ?_;exact aS (ay (ih1 (i1+1) t5 ⟨cM hx1,h⟩) (bb I))
  ·obtain⟨A,h⟩:=h
   refine dg A I<|aD<|ai<|aY<|dE rs o3 I (df A)<|aV o3 th I fun b3=>bL o3 aj I<|aK 5 I<|bO<|aJ<|aX I<|aX I ?_;refine cq h fun t6 q_t6 h=>ap I (bR rU lN I I)<|ap I (bM jY I I)<|ap I (fun D=>a8 (r:=bI) (ys:=[e.Tree]) (xs:=[.tmp 50]) KF jY I I I I I ⟨(bF I D),d⟩) ?_
   obtain⟨r6,h1t6,h0t6⟩:=og q_t6
   have q_r6g:=fun Y=>(h1t6 Y).1
   refine ap I (fun D=>bn T8 (Kj _ (q_r6g D)) ⟨(bF I D),d⟩)<|Q (bJ (M I) (fun Y=>(bF I Y)) (fun Y=>(h1t6 Y).2) h0t6)<|aX I<|cq h fun t7 q_t7 h=>ap I (bR J1 Ao I I)<|ap I (bM jG I I) ?_
   obtain⟨r7,h1t7,h0t7⟩:=og q_t7
   have q_r7g:=fun Y=>(h1t7 Y).1
   refine ap I (fun D=>bn Qb (FN _ (q_r7g D)) ⟨(bF I D),d⟩)<|Q (bJ (M I) (fun Y=>(bF I Y)) (fun Y=>(h1t7 Y).2) h0t7)<|gE I<|bz<|cR A hN I ?_;exact aS (ay (ih (i+1) t7 ⟨cM A,h⟩) (bb I))

def Yr s{R}(h:ub s=some R):cI aZ 91 [H bh s] (im R):=by
 exact dm Tryz.func91 I<|aY<|cK I<|bw<|bO<|aY<|cC qO I<|eo h ach (Yq _) (dd I) fun r h=>Q (fV (M I))<|be I<|so h▸aq I I

def YW q{R}(h:Az q=some R):cI aZ 39 [H cv q] (bd R):=by
 refine dm Tryz.func39 I<|aY<|cK I<|bG<|bO<|aY<|ba uA nU E8 I<|bW wL I<|Q (fa (M I) hI)<|aX I<|ap I (bR uA nU I I)<|ap I (bM E8 I I)<|ap I (kA wL I)<|ap I (fun D=>kD (bF I D) hI)<|eV I<|aX I<|ap I (bR yi pp I I)<|ap I (bM H0 I I)<|ap I (kA AH I)<|ap I (fun D=>kD (bF I D) hI) ?_;refine eV I<|aX I<|cq h fun t q_t h=>ap I (bR Eh sS I I)<|ap I (bM cF I I)<|ap I (mV I)<|ap I (q7 I) ?_
 obtain⟨t1,h1t,h0t⟩:=og q_t
 have q_t1g:=fun Y=>(h1t Y).1
 refine ft I I I I (fun D=>oJ Eh sS I I)<|ft I I I I (fun D=>fJ cF I I (bF I D)) ?_
 obtain⟨r,h1t1,h0t1⟩:=Yd q_t1g
 have q_rg:=fun Y=>(h1t1 Y).1
 refine ft I I I I (fun D=>bn aaE (Tm _ (q_rg D)) ⟨(bF I D),d⟩)<|ap I (fun D=>cV (bF I D) (fun Y=>(bF I (si D (nR Y)))) (fun Y=>(h1t1 (si D Y)).2) (fun Y=>h0t1 D Y))<|Q (bJ (M I) (fun Y=>(bF I Y)) (fun Y=>(h1t Y).2) h0t)<|bj I<|aT<|ba yi pp H0 I<|bW AH I<|Q (bC hI)<|bO<|ai<|aO (k:=33) I fun hN=>bp ?_;refine ay (j8 (h2:=fun ls i ok=>(q.Keys.drop i=ls)/\p4 q ls ok=some R) (Of:=fun _ i ok=>[]) (Gf:=fun _ i ok=>[(1,bt cv q),(3,im ok),(33,fm (j0) q.Keys),(34,iK q.Keys),(35,bd (i:Int))]) (fun i ok h=>?_) (fun e tl ih i ok h=>?_) q.Keys 0 t ⟨I,h⟩) (bb I)
 ·obtain⟨A,h⟩:=h
  refine dh A I<|av<|aT<|aX I<|Q (fV (M I))<|aX I<|cq h fun t2 q_t2 h=>au I (bR uA nU I I)<|au I (bM E8 I I) ?_
  obtain⟨r1,h1t2,h0t2⟩:=og q_t2
  have q_r1g:=fun Y=>(h1t2 Y).1
  refine au I (fun D=>bn acj (Ys _ _ (q_r1g D)) ⟨(bF I D),(UE aci fun x y h=>Yr _ h),d⟩)<|Q (cV (M I) (fun Y=>(bF I (nR Y))) (fun Y=>(h1t2 Y).2) h0t2)<|bY h I (fun h=>?_) (fun h=>?_)
  ·exact aY<|dJ<|af<|so h▸aq I I
  ·exact gC<|aY<|dJ<|so h▸aq I I
 ·obtain⟨A,h⟩:=h
  refine dg A I<|aD<|ai<|aY<|dE AH xN I (df A)<|aV xN F2 I fun b=>bL xN aj I<|aK 5 I<|bO<|aJ<|aX I<|aX I ?_;refine cq h fun t3 q_t3 h=>ap I (bR yh rQ I I)<|ap I (bM jG I I)<|ap I (fun D=>fW (bF I D) hS)<|ap I (q7 I) ?_
  obtain⟨t4,h1t3,h0t3⟩:=og q_t3
  have q_t4g:=fun Y=>(h1t3 Y).1
  refine ej I I I I (fun D=>oJ vH pr I I)<|ej I I I I (fun D=>fJ cF I I (bF I D)) ?_
  obtain⟨r2,h1t4,h0t4⟩:=Yd q_t4g
  have q_r2g:=fun Y=>(h1t4 Y).1
  refine ej I I I I (fun D=>bn aaE (Tm _ (q_r2g D)) ⟨(bF I D),d⟩)<|ap I (fun D=>bJ (bF I D) (fun Y=>(bF I (si D Y))) (fun Y=>(h1t4 (si D Y)).2) (fun Y=>h0t4 D Y))<|ap I (q7 I) ?_
  obtain⟨t5,h1t3⟩:=UA (fun Y=>(h1t3 Y).2)
  have q_t5g:=fun Y=>(h1t3 Y).1
  refine ft I I I I (fun D=>oJ yh rQ I I)<|ft I I I I (fun D=>fJ jG I I (bF I D)) ?_
  obtain⟨r3,h1t5,h0t5⟩:=Yd q_t5g
  have q_r3g:=fun Y=>(h1t5 Y).1
  refine ft I I I I (fun D=>bn Mh (zF _ (q_r3g D)) ⟨(bF I D),d⟩)<|ft I I I I (fun D=>bC (bF I D))<|ej I I I I (fun D=>oJ vH pr I I)<|ej I I I I (fun D=>fJ cF I I (bF I D))<|ej I I I I (fun D=>mg (bF I D) hI)<|ft I I I I (fun D=>jw (bF I D) (fun Y=>(bF I (si D Y))))<|ap I (fun D=>cV (bF I D) (fun Y=>(bF I (si D (nR Y)))) (fun Y=>(h1t5 (si D Y)).2) (fun Y=>h0t5 D Y))<|Q (bJ (M I) (fun Y=>(bF I Y)) (fun Y=>(h1t3 Y).2) h0t3)<|gE I<|bz<|cR A hN I ?_;exact aS (ay (ih (i+1) t3 ⟨cM A,h⟩) (bb I))

def V0 c name{R}(h:pZ c name=some R):cI aZ 173 [H bK c,H rS name] (tT [bd R.1,im R.2]):=by
 exact dm Tryz.func173 I<|aY<|cK I<|bG<|bw<|bO<|aY<|ba nk eK vV I<|aX I<|eo h Xu (PM _ _ _) ⟨(M I),(UE aaF fun x y h=>Tn _ h),(M I),d⟩ fun r h=>cY I I<|cY I I<|gE I<|be I<|so h▸cX I I I

def VZ s{R}(h:wG s=some R):cI aZ 174 [H bg s] (H rS R):=by
 refine dm Tryz.func174 I<|aY<|cK I<|Q (cg hS)<|bO<|aT<|ba Ef re jG I<|Q (fW (M I) hS)<|bY h I (fun h=>?_) (fun h=>?_)
 ·exact aY<|ba Eg rf jG I<|be I<|af<|so h▸aq I I
 ·exact gC<|aY<|ba Ef re jG I<|be I<|so h▸aq I I

set_option maxHeartbeats 4000000 in
def TB(b:Nat)(ix:OI) s p{R}(h:iy s p=some R):ea aZ 139 [tV (an b 0),H bg p] (dx b s ix) (fun _:OI=>bd R.1) (fun j=>dx b R.2 j):=by
 refine ea.of Tryz.func139 I I I fun w0 S0=>?_;refine(show CG _ _ _ [bx (rH aU (z10 ix s)) 127 b s,K aP 3 (ix.h 0).1 (ix.h 0).2 s.out.Tables,K aw 71 (ix.h 1).1 (ix.h 1).2 s.out.Joins,K aP 3 (ix.h 2).1 (ix.h 2).2 s.out.Keys,K aN 73 (ix.h 3).1 (ix.h 3).2 s.out.Aggs,K ac 62 (ix.h 4).1 (ix.h 4).2 s.out.Items,K aP 3 (ix.h 5).1 (ix.h 5).2 s.kinds,K aP 3 (ix.h 6).1 (ix.h 6).2 s.groups,ci mU ez (ix.h 7).2 none (ix.oss 0) s.called,ci ff ez (ix.h 8).2 none (ix.oss 1) s.alone,eQ (fun y:Int=>bd y) lg (ix.h 9).2 s.behind] _ from ?_);refine aY<|cK I<|bG<|bO<|aD<|cq h fun r q_r h=>?_
 refine eI (ts:=[_,_,_,_,_,_,_,_,_,_,_,_]) mixed I I
  ⟨f8 I I,
  ⟨ga 12 0 I I (bl (M I)),
  ⟨ga 13 1 I I (lv 0 J9 I I I),
  ⟨ga 14 2 I I (bB (r:=rH aU (z10 ix s)) (x:=s) qa I I (nD BO) (.head _) (M I)),
  ⟨ug 3 I I (oJ Eg rf I I),
  ⟨jX 4 jG I I,
  ⟨fg 15 3 17 5 I I I (bn abd (V0 _ _ q_r) ⟨(M I),(M I),d⟩),
  ⟨ga 18 6 I I (gH I),
  ⟨ga 11 7 I I (vS I I),
  ⟨ga 11 7 I I (vS I I),
  ⟨ga 19 8 I I (AW I),
  ⟨ga 20 9 I I (AW I),
  d⟩⟩⟩⟩⟩⟩⟩⟩⟩⟩⟩⟩ ?_
 refine av<|aY<|cC vU I<|eo h abc (VZ _) (dd I) fun r1 h=>bj I<|aD<|ai<|aH I<|Q (fV (M I))<|bj I<|mA h I (fun h=>?_) (fun h=>?_)
 ·exact aY<|dJ<|bZ<|so h▸er I ix I I (fun _ _ h=>h)
 ·refine aH I<|Q (bl (M I))<|bv 19 PC I<|Q (qt WX I (.head _) (M I))<|aX I<|Q (Nt (γ:=fun y:Bool=>H rB y) (z:=false) Tryz.underlying123 (CY gx) zv4 (fun S=>⟨_,I,(fun _=>I) S⟩) (.tail _ (.tail _ (.tail _ (.tail _ (.tail _ (.tail _ (.tail _ (.tail _ (.head _))))))))) (M I) (S4 (M I)))<|bj I<|mA h I (fun h=>?_) (fun h=>?_)
  ·exact aY<|dJ<|bZ<|so h▸er I ix I I (fun _ _ h=>h)
  ·refine bk<|bq<|av<|aH I<|Q (bl (M I))<|bv 19 PC I<|Q (qt WX I (.head _) (M I))<|aX I<|Jm<|WI (γ:=fun y:Bool=>im y) Tryz.underlying123 (CY gx) (M I) (S4 (M I)) hB fun os=>dW<|Oq (r' :=rH aU (z10 ix s)) (x' :=({s with called:=(kq s.called r1 true)}:am)) (fun _ _ _ _ h=>h) ?_;refine(show RG _ _ _ _ [_,_,_,_,_,_,_,_,_,_,_] _ from ?_);refine bO<|aH I<|aX I<|Q (bl (M I))<|bv 10 gJ I<|bv 10 pu I<|Q (cP fL I (.head _) (.tail _ (.tail _ (.head _))) (M I))<|aX I<|Q (a8 (r:=aP) (ys:=[r.1]) (xs:=[.tmp 44]) fH cF I I I I I ⟨(M I),d⟩)<|ib<|cq h fun l q_l h=>me cF I I I I fH I I (M I) (M I) q_l fun l1 c=>Q (bl (M I))<|bv 10 gJ I<|bv 10 pu I<|fA (EffOK.fr1 (ip (hs' :=[(10,J l1 c l.length),(11,J (ix.h 1).1 (ix.h 1).2 s.out.Joins.length),(16,J (ix.h 2).1 (ix.h 2).2 s.out.Keys.length),(17,J (ix.h 3).1 (ix.h 3).2 s.out.Aggs.length),(18,J (ix.h 4).1 (ix.h 4).2 s.out.Items.length),(22,J (ix.h 5).1 (ix.h 5).2 s.kinds.length),(23,J (ix.h 6).1 (ix.h 6).2 s.groups.length),(19,aG (ix.h 7).2),(20,aG (ix.h 8).2),(21,aG (ix.h 9).2)]) (u:=J l1 c l.length) fL I I (gm iP mM CH) I ⟨.inl ⟨I,I,I⟩,.inr ⟨I,I⟩,.inr ⟨I,I⟩,.inr ⟨I,I⟩,.inr ⟨I,I⟩,.inr ⟨I,I⟩,.inr ⟨I,I⟩,.inr ⟨I,I⟩,.inr ⟨I,I⟩,.inr ⟨I,I⟩,d⟩ (M I) (kB (M I)) (tQ (M I)))) fun i=>?_;refine(show RG _ _ _ _ [_,_,_,_,_,_,_,_,_,_,_] _ from ?_);refine cq h fun sc q_sc h=>oo (O' :=[bx (rH aU [(10,J l1 c sc.out.Tables.length),(11,J (ix.h 1).1 (ix.h 1).2 sc.out.Joins.length),(16,J (ix.h 2).1 (ix.h 2).2 sc.out.Keys.length),(17,J (ix.h 3).1 (ix.h 3).2 sc.out.Aggs.length),(18,J (ix.h 4).1 (ix.h 4).2 sc.out.Items.length),(22,J (ix.h 5).1 (ix.h 5).2 sc.kinds.length),(23,J (ix.h 6).1 (ix.h 6).2 sc.groups.length),(19,aG (ix.h 7).2),(20,aG (ix.h 8).2),(21,aG (ix.h 9).2)]) 127 b sc,K aP 3 l1 c sc.out.Tables,ci mU ez (ix.h 7).2 none os sc.called,K aw 71 (ix.h 1).1 (ix.h 1).2 sc.out.Joins,K aP 3 (ix.h 2).1 (ix.h 2).2 sc.out.Keys,K aN 73 (ix.h 3).1 (ix.h 3).2 sc.out.Aggs,K ac 62 (ix.h 4).1 (ix.h 4).2 sc.out.Items,K aP 3 (ix.h 5).1 (ix.h 5).2 sc.kinds,K aP 3 (ix.h 6).1 (ix.h 6).2 sc.groups,ci ff ez (ix.h 8).2 none (ix.oss 1) sc.alone,eQ (fun y:Int=>bd y) lg (ix.h 9).2 sc.behind]) (by cases so q_sc;exact I)<|bO<|aT<|aX I<|Q (bl (M I))<|bv 0 J9 I<|bv 0 nk I<|Q (bB (r:=rH aU [(10,J l1 c sc.out.Tables.length),(11,J (ix.h 1).1 (ix.h 1).2 sc.out.Joins.length),(16,J (ix.h 2).1 (ix.h 2).2 sc.out.Keys.length),(17,J (ix.h 3).1 (ix.h 3).2 sc.out.Aggs.length),(18,J (ix.h 4).1 (ix.h 4).2 sc.out.Items.length),(22,J (ix.h 5).1 (ix.h 5).2 sc.kinds.length),(23,J (ix.h 6).1 (ix.h 6).2 sc.groups.length),(19,aG (ix.h 7).2),(20,aG (ix.h 8).2),(21,aG (ix.h 9).2)]) (x:=sc) vV I I (nD (fq BO eK)) (.head _) (M I))<|aX I<|cq h fun e q_e h=>uC sF kM I q_e<|ba kR fY q9 I<|bW p8 I<|Q (bC hI)<|bO<|ai<|aO (k:=58) I fun hN=>bp ?_;refine fF<|fF<|Et<|fF<|fF<|fF<|fF<|fF<|fF<|fF<|fF ?_;refine ay (uf (h2:=fun ls i1 ob ix1=>(e.Columns.drop i1=ls)/\gT r1 ls ob=some R) (Of:=fun _ i1 ob (ix1:OI)=>[bx (rH aU (z10 ix1 ob)) 127 b ob,K aP 3 (ix1.h 0).1 (ix1.h 0).2 ob.out.Tables,K aw 71 (ix1.h 1).1 (ix1.h 1).2 ob.out.Joins,K aP 3 (ix1.h 2).1 (ix1.h 2).2 ob.out.Keys,K aN 73 (ix1.h 3).1 (ix1.h 3).2 ob.out.Aggs,K ac 62 (ix1.h 4).1 (ix1.h 4).2 ob.out.Items,K aP 3 (ix1.h 5).1 (ix1.h 5).2 ob.kinds,K aP 3 (ix1.h 6).1 (ix1.h 6).2 ob.groups,ci mU ez (ix1.h 7).2 none (ix1.oss 0) ob.called,ci ff ez (ix1.h 8).2 none (ix1.oss 1) ob.alone,eQ (fun y:Int=>bd y) lg (ix1.h 9).2 ob.behind]) (Gf:=fun _ i1 ob ix1=>[(0,tV (an b 0)),(7,H rS r1),(58,fm (cZ) e.Columns),(59,iK e.Columns),(60,bd (i1:Int))]) (fun i1 ob ix1 h=>?_) (fun e1 tl ih i1 ob ix1 h=>?_) e.Columns 0 sc (Va [(l1,c),((ix.h 1).1,(ix.h 1).2),((ix.h 2).1,(ix.h 2).2),((ix.h 3).1,(ix.h 3).2),((ix.h 4).1,(ix.h 4).2),((ix.h 5).1,(ix.h 5).2),((ix.h 6).1,(ix.h 6).2),(none,(ix.h 7).2),(none,(ix.h 8).2),(none,(ix.h 9).2)] [os,(ix.oss 1),[]]) ⟨I,h⟩) (bb I)
   ·obtain⟨A,h⟩:=h
    exact dh A I<|av<|aY<|dJ<|so h▸er I ix1 I I (fun _ _ h=>h)
   ·obtain⟨A,h⟩:=h
    refine dg A I<|aD<|ai<|aY<|dE p8 kl I (df A)<|aV kl oq I fun b1=>bL kl aj I<|aK 9 I<|bO<|aH I ?_;refine Q (bl (M I))<|bv 22 wA I<|Q (cP fL I (.head _) (.tail _ (.tail _ (.tail _ (.tail _ (.tail _ (.tail _ (.head _))))))) (M I))<|Q (fN fH (kB (M I)))<|bj I<|aD<|cq h fun l9 q_l9 h=>?_
    refine ek 16 [tc (tV (an b 0)),tc (tV (an b 0)),tc (tV (an b 20)),tc (tV (aG (ix1.h 8).2)),tc (bt rS e1.Name),tc (H rS e1.Name),tc (tV (an b 0)),tc (tV (an b 0)),tc (tV (an b 20)),tc (tV (aG (ix1.h 8).2)),tc (bt rS e1.Name),tc (H rS e1.Name),([12],fun s=>tO aP ((s.getD 0 oF).h 0).1 ((s.getD 0 oF).h 0).2 ((ij ob.alone e1.Name).getD [])),tc (iK ob.kinds),tc (pE ([(ob.kinds.length:Int)])),([15],fun s=>tO aP ((s.getD 0 oF).h 0).1 ((s.getD 0 oF).h 0).2 l9)] [false,false,false,false,false,false,false,false,false,false,false,false,true,false,false,true] [fun _=>[bx (rH aU (z10 ix1 ob)) 127 b ob,K aP 3 (ix1.h 0).1 (ix1.h 0).2 ob.out.Tables,K aw 71 (ix1.h 1).1 (ix1.h 1).2 ob.out.Joins,K aP 3 (ix1.h 2).1 (ix1.h 2).2 ob.out.Keys,K aN 73 (ix1.h 3).1 (ix1.h 3).2 ob.out.Aggs,K ac 62 (ix1.h 4).1 (ix1.h 4).2 ob.out.Items,K aP 3 (ix1.h 5).1 (ix1.h 5).2 ob.kinds,K aP 3 (ix1.h 6).1 (ix1.h 6).2 ob.groups,ci mU ez (ix1.h 7).2 none (ix1.oss 0) ob.called,ci ff ez (ix1.h 8).2 none (ix1.oss 1) ob.alone,eQ (fun y:Int=>bd y) lg (ix1.h 9).2 ob.behind],fun sg=>[K aP 3 ((sg 12).h 0).1 ((sg 12).h 0).2 ((ij ob.alone e1.Name).getD []),ci ff ez (ix1.h 8).2 (some e1.Name) (sg 12).os ob.alone,bx (rH aU (z10 ix1 ob)) 127 b ob,K aP 3 (ix1.h 0).1 (ix1.h 0).2 ob.out.Tables,K aw 71 (ix1.h 1).1 (ix1.h 1).2 ob.out.Joins,K aP 3 (ix1.h 2).1 (ix1.h 2).2 ob.out.Keys,K aN 73 (ix1.h 3).1 (ix1.h 3).2 ob.out.Aggs,K ac 62 (ix1.h 4).1 (ix1.h 4).2 ob.out.Items,K aP 3 (ix1.h 5).1 (ix1.h 5).2 ob.kinds,K aP 3 (ix1.h 6).1 (ix1.h 6).2 ob.groups,ci mU ez (ix1.h 7).2 none (ix1.oss 0) ob.called,eQ (fun y:Int=>bd y) lg (ix1.h 9).2 ob.behind],fun sg=>[K aP 3 ((sg 15).h 0).1 ((sg 15).h 0).2 l9,ci ff ez (ix1.h 8).2 (some e1.Name) (sg 12).os ob.alone,bx (rH aU (z10 ix1 ob)) 127 b ob,K aP 3 (ix1.h 0).1 (ix1.h 0).2 ob.out.Tables,K aw 71 (ix1.h 1).1 (ix1.h 1).2 ob.out.Joins,K aP 3 (ix1.h 2).1 (ix1.h 2).2 ob.out.Keys,K aN 73 (ix1.h 3).1 (ix1.h 3).2 ob.out.Aggs,K ac 62 (ix1.h 4).1 (ix1.h 4).2 ob.out.Items,K aP 3 (ix1.h 5).1 (ix1.h 5).2 ob.kinds,K aP 3 (ix1.h 6).1 (ix1.h 6).2 ob.groups,ci mU ez (ix1.h 7).2 none (ix1.oss 0) ob.called,eQ (fun y:Int=>bd y) lg (ix1.h 9).2 ob.behind]] I mixed I I I I I
     ⟨⟨[⟨0,fun _=>tV (an b 0),none⟩],_,0,2,I,⟨(fun _=>I),d⟩,I,I,I,I,I,fun _ sg _ _=>aa I (gH I)⟩,
     ⟨⟨[⟨69,fun _=>tV (an b 0),some 0⟩],_,0,2,I,⟨(fun _=>I),d⟩,I,I,I,I,I,fun _ sg _ _=>aa I (bl (M I))⟩,
     ⟨⟨[⟨70,fun _=>tV (an b 0),some 1⟩],_,0,2,I,⟨(fun _=>I),d⟩,I,I,I,I,I,fun _ sg _ _=>aa I (lv 20 J8 I I I)⟩,
     ⟨⟨[⟨71,fun _=>tV (an b 20),some 2⟩],_,0,2,I,⟨(fun _=>I),d⟩,I,I,I,I,I,um (fun sg=>aa I (qt KT I (.head _) (M I))) (um (fun sg=>aa I (qt KT I (.tail _ (.tail _ (.head _))) (M I))) (fK (fun sg=>aa I (qt KT I (.tail _ (.tail _ (.head _))) (M I)))))⟩,
     ⟨⟨[⟨9,fun _=>bt cZ e1,none⟩],_,0,2,I,⟨(fun _=>I),d⟩,I,I,I,I,I,fun _ sg _ _=>aa I (oJ tA lF I I)⟩,
     ⟨⟨[⟨73,fun _=>bt rS e1.Name,some 4⟩],_,0,2,I,⟨(fun _=>I),d⟩,I,I,I,I,I,fun _ sg _ _=>aa I (qN jG I I)⟩,
     ⟨⟨[⟨0,fun _=>tV (an b 0),none⟩],_,0,0,I,⟨(fun _=>I),d⟩,I,I,I,I,I,fun _ sg _ _=>aa I (gH I)⟩,
     ⟨⟨[⟨75,fun _=>tV (an b 0),some 6⟩],_,0,0,I,⟨(fun _=>I),d⟩,I,I,I,I,I,fun _ sg _ _=>aa I (bl (M I))⟩,
     ⟨⟨[⟨76,fun _=>tV (an b 0),some 7⟩],_,0,0,I,⟨(fun _=>I),d⟩,I,I,I,I,I,fun _ sg _ _=>aa I (lv 20 J8 I I I)⟩,
     ⟨⟨[⟨77,fun _=>tV (an b 20),some 8⟩],_,0,0,I,⟨(fun _=>I),d⟩,I,I,I,I,I,fK (fun sg=>aa I (qt KT I (.head _) (M I)))⟩,
     ⟨⟨[⟨9,fun _=>bt cZ e1,none⟩],_,0,0,I,⟨(fun _=>I),d⟩,I,I,I,I,I,fun _ sg _ _=>aa I (oJ tA lF I I)⟩,
     ⟨⟨[⟨79,fun _=>bt rS e1.Name,some 10⟩],_,0,0,I,⟨(fun _=>I),d⟩,I,I,I,I,I,fun _ sg _ _=>aa I (qN jG I I)⟩,
     ⟨⟨[⟨78,fun _=>tV (aG (ix1.h 8).2),some 9⟩,⟨80,fun _=>H rS e1.Name,some 11⟩],_,I,⟨(fun _=>I),(fun _=>I),d⟩,I,I,I,fun sg=>bS I (EffOK.fr9 (Rz Tryz.underlying124 (CY gx) Zw (M I) (S4 (M I))))⟩,
     ⟨⟨[⟨10,fun _=>H aP (ob.kinds.length:Int),none⟩],_,0,1,I,⟨(fun _=>I),d⟩,I,I,I,I,I,fun _ sg _ _=>aa I (gH I)⟩,
     ⟨⟨[⟨82,fun _=>H aP (ob.kinds.length:Int),some 13⟩],_,0,1,I,⟨(fun _=>I),d⟩,I,I,I,I,I,fun _ sg _ _=>aa I (a8 (r:=aP) (ys:=[(ob.kinds.length:Int)]) (xs:=[.tmp 82]) fH cF I I I I I ⟨(M I),d⟩)⟩,
     ⟨⟨[⟨81,fun sg=>tO aP ((sg 12).h 0).1 ((sg 12).h 0).2 ((ij ob.alone e1.Name).getD []),some 12⟩,⟨83,fun _=>H Dx ([(ob.kinds.length:Int)]),some 14⟩],_,I,⟨(fun _=>I),(fun _=>I),d⟩,I,I,I,fun sg=>bS I (iw cF I I I I fH I (M I) (M I) q_l9)⟩,
     d⟩⟩⟩⟩⟩⟩⟩⟩⟩⟩⟩⟩⟩⟩⟩⟩ (fun sg=>?_)
    refine(show RG _ _ _ _ [_,_,_,_,_,_,_,_,_,_,_,_] _ from ?_);refine dW<|dW<|WJ Tryz.underlying124 (CY gx) (M I) (S4 (M I)) (M I) fun os1=>dW<|Oq (r' :=rH aU (z10 ix1 ob)) (x' :=({ob with alone:=(kq ob.alone e1.Name l9)}:am)) (fun _ _ _ _ h=>h) ?_;refine(show RG _ _ _ _ [_,_,_,_,_,_,_,_,_,_,_] _ from ?_);refine bO<|aD ?_
    refine xE 9 (ts:=[tV (an b 0),tV (an b 0),tV (an b 21),tV (aG (ix1.h 9).2),H rS r1,bt rS e1.Name,H rS e1.Name,H fI (⟨r1,e1.Name⟩:km),iK ob.kinds]) mixed I I I
     ⟨f8 I I,
     ⟨ga 85 0 I I (bl (M I)),
     ⟨ga 86 1 I I (lv 21 PB I I I),
     ⟨ga 87 2 I I (qt WW I (.head _) (M I)),
     ⟨f8 I I,
     ⟨ug 9 I I (oJ tA lF I I),
     ⟨jX 5 jG I I,
     ⟨fg 89 4 91 6 I I I (bU (y:=(⟨r1,e1.Name⟩:km)) xM Z6 z6 (⟨_,_,_,_,_,I,IH,I,(M I),⟨_,_,_,_,_,I,IG,I,(M I),I⟩⟩)),
     ⟨f8 I I,
     d⟩⟩⟩⟩⟩⟩⟩⟩⟩ ?_
    refine Oo<|WK (γ:=fun y:Int=>bd y) Tryz.underlying125 Z2 (M I) (S5 (p:=((⟨r1,e1.Name⟩:km).Table,(⟨r1,e1.Name⟩:km).Name)) I (fun _ _ h=>Z4 h) (M I)) (M I)<|dW<|Oq (r' :=rH aU (z10 ix1 ob)) (x' :=({({ob with alone:=(kq ob.alone e1.Name l9)}:am)with behind:=(kq ob.behind ((⟨r1,e1.Name⟩:km).Table,(⟨r1,e1.Name⟩:km).Name) (ob.kinds.length:Int))}:am)) (fun _ _ _ _ h=>h) ?_;refine(show RG _ _ _ _ [_,_,_,_,_,_,_,_,_,_,_] _ from ?_);refine cq h fun sc1 q_sc1 h=>oo (O' :=[bx (rH aU (z10 ix1 sc1)) 127 b sc1,eQ (fun y:Int=>bd y) lg (ix1.h 9).2 sc1.behind,ci ff ez (ix1.h 8).2 none os1 sc1.alone,K aP 3 (ix1.h 0).1 (ix1.h 0).2 sc1.out.Tables,K aw 71 (ix1.h 1).1 (ix1.h 1).2 sc1.out.Joins,K aP 3 (ix1.h 2).1 (ix1.h 2).2 sc1.out.Keys,K aN 73 (ix1.h 3).1 (ix1.h 3).2 sc1.out.Aggs,K ac 62 (ix1.h 4).1 (ix1.h 4).2 sc1.out.Items,K aP 3 (ix1.h 5).1 (ix1.h 5).2 sc1.kinds,K aP 3 (ix1.h 6).1 (ix1.h 6).2 sc1.groups,ci mU ez (ix1.h 7).2 none (ix1.oss 0) sc1.called]) (by cases so q_sc1;exact I)<|bO<|cq h fun l10 q_l10 h=>?_
    refine ek 9 [tc (tV (an b 0)),tc (tV (an b 0)),tc (tV (an b 0)),tc (tV (an b 22)),tc (tO aP (ix1.h 5).1 (ix1.h 5).2 sc1.kinds),tc (bt aP e1.Kind),tc (bd e1.Kind),tc (pE ([e1.Kind])),([8],fun s=>tO aP ((s.getD 0 oF).h 0).1 ((s.getD 0 oF).h 0).2 l10)] [false,false,false,false,false,false,false,false,true] [fun _=>[bx (rH aU (z10 ix1 sc1)) 127 b sc1,eQ (fun y:Int=>bd y) lg (ix1.h 9).2 sc1.behind,ci ff ez (ix1.h 8).2 none os1 sc1.alone,K aP 3 (ix1.h 0).1 (ix1.h 0).2 sc1.out.Tables,K aw 71 (ix1.h 1).1 (ix1.h 1).2 sc1.out.Joins,K aP 3 (ix1.h 2).1 (ix1.h 2).2 sc1.out.Keys,K aN 73 (ix1.h 3).1 (ix1.h 3).2 sc1.out.Aggs,K ac 62 (ix1.h 4).1 (ix1.h 4).2 sc1.out.Items,K aP 3 (ix1.h 5).1 (ix1.h 5).2 sc1.kinds,K aP 3 (ix1.h 6).1 (ix1.h 6).2 sc1.groups,ci mU ez (ix1.h 7).2 none (ix1.oss 0) sc1.called],fun sg1=>[K aP 3 ((sg1 8).h 0).1 ((sg1 8).h 0).2 l10,bx (rH aU (z10 ix1 sc1)) 127 b sc1,eQ (fun y:Int=>bd y) lg (ix1.h 9).2 sc1.behind,ci ff ez (ix1.h 8).2 none os1 sc1.alone,K aP 3 (ix1.h 0).1 (ix1.h 0).2 sc1.out.Tables,K aw 71 (ix1.h 1).1 (ix1.h 1).2 sc1.out.Joins,K aP 3 (ix1.h 2).1 (ix1.h 2).2 sc1.out.Keys,K aN 73 (ix1.h 3).1 (ix1.h 3).2 sc1.out.Aggs,K ac 62 (ix1.h 4).1 (ix1.h 4).2 sc1.out.Items,K aP 3 (ix1.h 6).1 (ix1.h 6).2 sc1.groups,ci mU ez (ix1.h 7).2 none (ix1.oss 0) sc1.called]] I mixed I I I I I
     ⟨⟨[⟨0,fun _=>tV (an b 0),none⟩],_,0,1,I,⟨(fun _=>I),d⟩,I,I,I,I,I,fun _ sg1 _ _=>aa I (gH I)⟩,
     ⟨⟨[⟨0,fun _=>tV (an b 0),none⟩],_,0,0,I,⟨(fun _=>I),d⟩,I,I,I,I,I,fun _ sg1 _ _=>aa I (gH I)⟩,
     ⟨⟨[⟨95,fun _=>tV (an b 0),some 1⟩],_,0,0,I,⟨(fun _=>I),d⟩,I,I,I,I,I,fun _ sg1 _ _=>aa I (bl (M I))⟩,
     ⟨⟨[⟨96,fun _=>tV (an b 0),some 2⟩],_,0,0,I,⟨(fun _=>I),d⟩,I,I,I,I,I,fun _ sg1 _ _=>aa I (lv 22 wA I I I)⟩,
     ⟨⟨[⟨97,fun _=>tV (an b 22),some 3⟩],_,0,0,I,⟨(fun _=>I),d⟩,I,I,I,I,I,fK (fun sg1=>aa I (cP fL I (.head _) (.tail _ (.tail _ (.tail _ (.tail _ (.tail _ (.tail _ (.tail _ (.tail _ (.head _))))))))) (M I)))⟩,
     ⟨⟨[⟨9,fun _=>bt cZ e1,none⟩],_,0,0,I,⟨(fun _=>I),d⟩,I,I,I,I,I,fun _ sg1 _ _=>aa I (oJ FJ wx I I)⟩,
     ⟨⟨[⟨99,fun _=>bt aP e1.Kind,some 5⟩],_,0,0,I,⟨(fun _=>I),d⟩,I,I,I,I,I,fun _ sg1 _ _=>aa I (qN cF I I)⟩,
     ⟨⟨[⟨100,fun _=>H aP e1.Kind,some 6⟩],_,0,0,I,⟨(fun _=>I),d⟩,I,I,I,I,I,fun _ sg1 _ _=>aa I (a8 (r:=aP) (ys:=[e1.Kind]) (xs:=[.tmp 100]) fH cF I I I I I ⟨(M I),d⟩)⟩,
     ⟨⟨[⟨98,fun _=>tO aP (ix1.h 5).1 (ix1.h 5).2 sc1.kinds,some 4⟩,⟨101,fun _=>H Dx ([e1.Kind]),some 7⟩],_,I,⟨(fun _=>I),(fun _=>I),d⟩,I,I,I,fun sg1=>bS I (EffOK.fr8 (iw cF I I I I fH I (M I) (M I) q_l10))⟩,
     d⟩⟩⟩⟩⟩⟩⟩⟩⟩ (fun sg1=>?_)
    refine(show RG _ _ _ _ [_,_,_,_,_,_,_,_,_,_,_] _ from ?_);refine Q (bl (M I))<|bv 22 wA I<|fA (EffOK.fr1 (ip (hs' :=[(10,J (ix1.h 0).1 (ix1.h 0).2 sc1.out.Tables.length),(11,J (ix1.h 1).1 (ix1.h 1).2 sc1.out.Joins.length),(16,J (ix1.h 2).1 (ix1.h 2).2 sc1.out.Keys.length),(17,J (ix1.h 3).1 (ix1.h 3).2 sc1.out.Aggs.length),(18,J (ix1.h 4).1 (ix1.h 4).2 sc1.out.Items.length),(22,J ((sg1 8).h 0).1 ((sg1 8).h 0).2 l10.length),(23,J (ix1.h 6).1 (ix1.h 6).2 sc1.groups.length),(19,aG (ix1.h 7).2),(20,aG (ix1.h 8).2),(21,aG (ix1.h 9).2)]) (u:=J ((sg1 8).h 0).1 ((sg1 8).h 0).2 l10.length) fL I I MW I ⟨.inr ⟨I,I⟩,.inr ⟨I,I⟩,.inr ⟨I,I⟩,.inr ⟨I,I⟩,.inr ⟨I,I⟩,.inl ⟨I,I,I⟩,.inr ⟨I,I⟩,.inr ⟨I,I⟩,.inr ⟨I,I⟩,.inr ⟨I,I⟩,d⟩ (M I) (kB (M I)) (tQ (M I)))) fun i2=>?_;refine(show RG _ _ _ _ [_,_,_,_,_,_,_,_,_,_,_] _ from ?_);refine bz<|cR A hN I<|gu<|kj<|al<|al<|fG<|al<|al<|al<|al<|al<|al ?_;exact aS (ay (ih (i1+1) ({sc1 with kinds:=l10}:am) (Va [((ix1.h 0).1,(ix1.h 0).2),((ix1.h 1).1,(ix1.h 1).2),((ix1.h 2).1,(ix1.h 2).2),((ix1.h 3).1,(ix1.h 3).2),((ix1.h 4).1,(ix1.h 4).2),(((sg1 8).h 0).1,((sg1 8).h 0).2),((ix1.h 6).1,(ix1.h 6).2),(none,(ix1.h 7).2),(none,(ix1.h 8).2),(none,(ix1.h 9).2)] [(ix1.oss 0),os1,[]]) ⟨cM A,h⟩) (bb I))

end Go.Proofs.YthbdkceckjihgaaGreatDoor

